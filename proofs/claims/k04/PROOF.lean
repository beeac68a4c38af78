import PyProof.Rows.All
import Wide.All
import OpenK.AllK
import Wide.FinOn
import KE.KStateDown
import HandS.ForMost
import HandS.Defaults
import HandS.Wide
import HandS.Evl
import HandS.Lambda
import HandS.Deep
import HandS.NoneIn
import HandS.ForExc
import HandS.ExcIs
import HandS.Head0
import HandS.Head1
import HandS.Head2
import HandS.HeadEnd
import HandS.HeadHook1
import HandS.HeadHook2
import HandS.IsInst
import KE.SortKeyHeap
import HandS.SortKw
import HandS.Conv
import HandS.HeadHook4
import KE.SortData
import KE.DataMinMax
import HandS.TupSets
import HandS.Rev
import HandS.HeadWalk
import HandS.EndTab
import PySem.Challenge.RW_nearfields_k04_hulls
set_option Elab.async false
set_option linter.all false
set_option maxRecDepth 100000
set_option maxHeartbeats 4000000
set_option exponentiation.threshold 1000
/-! A typed layer over HandS: worlds (what is settled, what stands), values of plain Lean types, expressions and blocks that compute an Option of a plain value. -/
namespace T
open PySem PySem.Spec PyProof.Rows L2
open Evl (Ex)

/-! ### worlds -/
/-- the tables of code objects that are known, with the name that their code objects bear -/
class Tb where
  T : List (Addr × Str)
section
variable [Tb]
def isTb : HO → Bool
  | .tbl _ => true
  | _ => false
/-- what one may change: no table, no code object -/
def isPl : HO → Bool
  | .tbl _ => false
  | .ext _ => false
  | _ => true
theorem tb_of_pl {o : HO} (h : isPl o = true) : isTb o = false := by cases o <;> first | rfl | cases h
/-- all but the tables stays -/
def Eh (H H' : Hp) : Prop := ∀ p o, H p = some o → isTb o = false → H' p = some o
theorem Eh.refl (H : Hp) : Eh H H := fun _ _ h _ => h
theorem Eh.trans {a b c : Hp} (x : Eh a b) (y : Eh b c) : Eh a c := fun p o h n => y p o (x p o h n) n
theorem Eh.of {a b : Hp} (e : Ex a b) : Eh a b := fun p o h _ => e p o h
/-- nothing stands at p but a table, perhaps -/
def fre (H : Hp) (p : Addr) : Prop := ∀ o, H p = some o → isTb o = true
theorem fre_of {H : Hp} {p : Addr} (h : H p = none) : fre H p := fun o e => by rw [h] at e; cases e
theorem Eh.back {H H' : Hp} (e : Eh H H') {p : Addr} (h : fre H' p) : fre H p := fun o q => by
  cases z : isTb o with
  | true => rfl
  | false => rw [← z]; exact h o (e p o q z)
theorem fre_no {H : Hp} {p : Addr} {o : HO} (h : fre H p) (e : H p = some o) (n : isTb o = false) : False := by
  have := h o e
  rw [n] at this
  cases this
/-- s: what no one changes any more; h: all that is tracked -/
structure Wd where
  s : Hp
  h : Hp
  e : Ex s h
  nt : ∀ p o, s p = some o → isTb o = false
  tb : LamX.Tabs Tb.T h
structure Wd.Le (a b : Wd) : Prop where
  s : Ex a.s b.s
  h : Eh a.h b.h
  f : ∀ p o, a.h p = some o → isTb o = false → a.s p = none → b.s p = none
theorem Wd.Le.refl (a : Wd) : a.Le a := ⟨Ex.refl _, Eh.refl _, fun _ _ _ _ h => h⟩
theorem ne_none_of {H : Hp} {p : Addr} {o : HO} (h : H p = some o) : H p ≠ none := by rw [h]; exact fun z => by cases z
theorem ex_ne {H H' : Hp} (e : Ex H H') {p : Addr} (h : H p ≠ none) : H' p ≠ none := by
  cases q : H p with
  | none => exact absurd q h
  | some o => exact ne_none_of (e p o q)
theorem ex_back {H H' : Hp} (e : Ex H H') {p : Addr} (h : H' p = none) : H p = none := Evl.fresh_back e h
theorem Wd.Le.trans {a b c : Wd} (x : a.Le b) (y : b.Le c) : a.Le c :=
  ⟨x.s.trans y.s, x.h.trans y.h, fun p o h1 n h2 => y.f p o (x.h p o h1 n) n (x.f p o h1 n h2)⟩
theorem Wd.fs (W : Wd) {p : Addr} (h : fre W.h p) : W.s p = none := by
  cases q : W.s p with
  | none => rfl
  | some o => exact (fre_no h (W.e p o q) (W.nt p o q)).elim
theorem tabs_ex {H H' : Hp} (t : LamX.Tabs Tb.T H) (e : ∀ p o, H p = some o → isPl o = false → H' p = some o) : LamX.Tabs Tb.T H' := fun p hp => by
  obtain ⟨ps, h1, h2, h3⟩ := t p hp
  refine ⟨ps, e _ _ h1 rfl, h2, fun pos cv hc => ?_⟩
  obtain ⟨c, e1, e2⟩ := h3 pos cv hc
  exact ⟨c, e1, e _ _ e2 rfl⟩
/-- a new object, settled -/
def Wd.new (W : Wd) (p : Addr) (o : HO) (hp : W.h p = none) (ho : isTb o = false := by rfl) : Wd := ⟨upd W.s p o, upd W.h p o, fun a u h => by
  by_cases e : a = p
  · subst e
    rw [upd_same] at h ⊢
    exact h
  · rw [upd_ne e] at h ⊢
    exact W.e a u h, fun a u h => by
  by_cases e : a = p
  · subst e
    rw [upd_same] at h
    cases h
    exact ho
  · rw [upd_ne e] at h
    exact W.nt a u h, tabs_ex W.tb fun q u h _ => Ex.new hp q u h⟩
theorem Wd.Le.new (W : Wd) {p : Addr} (o : HO) (h : W.h p = none) (ho : isTb o = false := by rfl) : W.Le (W.new p o h ho) :=
  ⟨Ex.new (ex_back W.e h), Eh.of (Ex.new h), fun q u h1 _ h2 => by
    show upd W.s p o q = none
    rw [upd_ne (fun z => by rw [z, h] at h1; cases h1)]
    exact h2⟩
/-- an object that is not settled is written anew -/
def Wd.upH (W : Wd) (l : Addr) (ob : HO) (n : W.s l = none) (old : ∀ o, W.h l = some o → isPl o = true) : Wd := ⟨W.s, upd W.h l ob, fun q o hq => by
  rw [upd_ne (fun z => by subst z; rw [n] at hq; cases hq)]
  exact W.e q o hq, W.nt, tabs_ex W.tb fun q u h hu => by
  rw [upd_ne (fun z => by subst z; rw [old u h] at hu; cases hu)]
  exact h⟩
/-- an object is settled -/
def Wd.settle (W : Wd) (l : Addr) (o : HO) (hh : W.h l = some o) (ho : isTb o = false) : Wd := ⟨upd W.s l o, W.h, fun p u q => by
  by_cases hp : p = l
  · subst hp
    rw [upd_same] at q
    cases q
    exact hh
  · rw [upd_ne hp] at q
    exact W.e p u q, fun p u q => by
  by_cases hp : p = l
  · subst hp
    rw [upd_same] at q
    cases q
    exact ho
  · rw [upd_ne hp] at q
    exact W.nt p u q, W.tb⟩
/-- an object is settled no more -/
def unS (H : Hp) (p : Addr) : Hp := fun q => if q = p then none else H q
theorem unS_some {H : Hp} {p q : Addr} {o : HO} (h : unS H p q = some o) : H q = some o := by
  unfold unS at h
  by_cases hq : q = p
  · rw [if_pos hq] at h
    cases h
  · rw [if_neg hq] at h
    exact h
def Wd.unset (W : Wd) (p : Addr) : Wd := ⟨unS W.s p, W.h, fun q o h => W.e q o (unS_some h), fun q o h => W.nt q o (unS_some h), W.tb⟩

end
/-! ### plain values -/
class Rep (α : Type) where
  rel : PySem.W.Frag → Hp → V → α → Prop
  mono : ∀ {K : PySem.W.Frag} {H H' : Hp} {v : V} {a : α}, Ex H H' → rel K H v a → rel K H' v a
open Rep (rel)
instance : Rep Int := ⟨fun _ _ v a => v = .int a, fun _ h => h⟩
instance : Rep Bool := ⟨fun _ _ v a => v = .bl a, fun _ h => h⟩
instance : Rep Str := ⟨fun _ _ v a => v = .str a, fun _ h => h⟩
instance : Rep Unit := ⟨fun _ _ v _ => v = .non, fun _ h => h⟩
instance {α β : Type} [Rep α] [Rep β] : Rep (α × β) := ⟨fun K H v a => ∃ p x y, v = .ref p ∧ H p = some (.tup [x, y]) ∧ rel K H x a.1 ∧ rel K H y a.2,
  fun e ⟨p, x, y, h1, h2, h3, h4⟩ => ⟨p, x, y, h1, e _ _ h2, Rep.mono e h3, Rep.mono e h4⟩⟩
/-- three whole numbers in a tuple -/
structure Tri where
  a : Int
  b : Int
  c : Int
  deriving DecidableEq
instance : Rep Tri := ⟨fun _ H v t => ∃ p, v = .ref p ∧ H p = some (.tup [.int t.a, .int t.b, .int t.c]), fun e ⟨p, h1, h2⟩ => ⟨p, h1, e _ _ h2⟩⟩
theorem pmono {α β : Type} {F G : α → β → Prop} (f : ∀ a b, F a b → G a b) : ∀ {l₁ : List α} {l₂ : List β}, Paired F l₁ l₂ → Paired G l₁ l₂
  | _, _, .nil => .nil
  | _, _, .cons r t => .cons (f _ _ r) (pmono f t)
instance {α : Type} [Rep α] : Rep (List α) := ⟨fun K H v xs => ∃ p vs, v = .ref p ∧ H p = some (.lst vs) ∧ Paired (fun v x => rel K H v x) vs xs,
  fun e ⟨p, vs, h1, h2, h3⟩ => ⟨p, vs, h1, e _ _ h2, pmono (fun _ _ h => Rep.mono e h) h3⟩⟩
instance {α : Type} [Rep α] : Rep (Option α) := ⟨fun K H v o => match o with
  | none => v = .non
  | some a => rel K H v a, fun {K H H' v a} e h => by
    cases a with
    | none => exact h
    | some a => exact Rep.mono (α := α) e h⟩
/-- the script: a list that is read alone -/
structure Script where
  ns : List Int
instance : Rep Script := ⟨fun K H v s => ∃ p, v = .ref p ∧ SqL K H p (s.ns.map V.int), fun e ⟨p, h1, h2⟩ => ⟨p, h1, Evl.ex_l e h2⟩⟩
/-- values that lean on no list and no dict -/
class Flat (α : Type) extends Rep α where
  minus : ∀ {K : PySem.W.Frag} {H H' : Hp} {v : V} {a : α}, (∀ p xs, H p = some (.tup xs) → H' p = some (.tup xs)) → rel K H v a → rel K H' v a
instance : Flat Int where
  minus := fun _ h => h
instance : Flat Bool where
  minus := fun _ h => h
instance : Flat Str where
  minus := fun _ h => h
instance : Flat Unit where
  minus := fun _ h => h
instance {α β : Type} [Flat α] [Flat β] : Flat (α × β) where
  minus := fun m h => by
    obtain ⟨p, x, y, h1, h2, h3, h4⟩ := h
    exact ⟨p, x, y, h1, m _ _ h2, Flat.minus m h3, Flat.minus m h4⟩
instance : Flat Tri where
  minus := fun m h => by
    obtain ⟨p, h1, h2⟩ := h
    exact ⟨p, h1, m _ _ h2⟩

/-- objects that are still changed -/
class MRep (α : Type) where
  orel : PySem.W.Frag → Hp → HO → α → Prop
  mono : ∀ {K : PySem.W.Frag} {H H' : Hp} {o : HO} {a : α}, Ex H H' → orel K H o a → orel K H' o a
  nt : ∀ {K : PySem.W.Frag} {H : Hp} {o : HO} {a : α}, orel K H o a → isPl o = true
structure ML (α : Type) where
  xs : List α
instance {α : Type} [Rep α] : MRep (ML α) := ⟨fun K H o m => ∃ vs, o = .lst vs ∧ Paired (fun v x => rel K H v x) vs m.xs, fun e ⟨vs, h1, h2⟩ => ⟨vs, h1, pmono (fun _ _ h => Rep.mono e h) h2⟩, fun ⟨vs, h1, _⟩ => by rw [h1]; rfl⟩

variable [Tb]
/-! ### slots -/
inductive SV : Type 1
  | any
  | imm {α : Type} [r : Rep α] (a : α)
  | mut {α : Type} [r : MRep α] (a : α)
def SV.isMut : SV → Prop
  | @SV.mut _ _ _ => True
  | _ => False
def SV.sat (K : PySem.W.Frag) (We W : Wd) : SV → Option (Option V) → Prop
  | .any, _ => True
  | @SV.imm _ r a, o => ∃ v, o = some (some v) ∧ r.rel K W.s v a
  | @SV.mut _ r a, o => ∃ (l : Addr) (ob : HO), o = some (some (V.ref l)) ∧ fre We.h l ∧ W.s l = none ∧ W.h l = some ob ∧ r.orel K W.s ob a
structure SR (K : PySem.W.Frag) (We : Wd) (B : Hp) (ρ : List SV) (σ : L2.St) (W : Wd) : Prop where
  le : We.Le W
  b : Ex B W.s
  len : σ.length = ρ.length
  at_ : ∀ (i : Nat) (x : SV), ρ[i]? = some x → x.sat K We W σ[i]?
  sep : ∀ (i j : Nat) (x y : SV) (l : Addr), i ≠ j → ρ[i]? = some x → ρ[j]? = some y → x.isMut → y.isMut → σ[i]? = some (some (.ref l)) → σ[j]? = some (some (.ref l)) → False
section
variable {K : PySem.W.Frag} {We W W' : Wd} {B : Hp} {ρ : List SV} {σ : L2.St}
theorem SV.sat_mono {x : SV} {o : Option (Option V)} (h : x.sat K We W o) (le : W.Le W') : x.sat K We W' o := by
  match x, h with
  | .any, _ => trivial
  | @SV.imm _ i a, ⟨v, e, r⟩ => exact ⟨v, e, i.mono le.s r⟩
  | @SV.mut _ i a, ⟨l, ob, e, n, s, hh, r⟩ => exact ⟨l, ob, e, n, le.f l ob hh (tb_of_pl (i.nt r)) s, le.h _ _ hh (tb_of_pl (i.nt r)), i.mono le.s r⟩
theorem SR.mono (S : SR K We B ρ σ W) (le : W.Le W') : SR K We B ρ σ W' :=
  ⟨S.le.trans le, S.b.trans le.s, S.len, fun i x h => SV.sat_mono (S.at_ i x h) le, S.sep⟩
theorem SR.imm {α : Type} [Rep α] {i : Nat} {a : α} (S : SR K We B ρ σ W) (h : ρ[i]? = some (.imm a)) : ∃ v, σ[i]? = some (some v) ∧ rel K W.s v a := S.at_ i _ h
theorem SR.rebase {B' : Hp} (S : SR K We B ρ σ W) (h : Ex B' W.s) : SR K We B' ρ σ W := ⟨S.le, h, S.len, S.at_, S.sep⟩
theorem get_set_cases {α : Type _} {l : List α} {i j : Nat} {a x : α} (h : (l.set i a)[j]? = some x) : (j = i ∧ x = a ∧ i < l.length) ∨ (j ≠ i ∧ l[j]? = some x) := by
  by_cases e : i = j
  · subst e
    rw [List.getElem?_set] at h
    simp only [if_true] at h
    split at h
    · rename_i hl
      exact .inl ⟨rfl, (Option.some.inj h).symm, hl⟩
    · cases h
  · rw [List.getElem?_set_ne e] at h
    exact .inr ⟨fun z => e z.symm, h⟩
/-- a slot that now holds a settled value, or anything -/
theorem SR.put (S : SR K We B ρ σ W) (le : W.Le W') {i : Nat} {x : SV} {o : Option V} (nm : ¬ x.isMut) (hx : i < ρ.length → x.sat K We W' (some o)) : SR K We B (ρ.set i x) (σ.set i o) W' := by
  have S' := S.mono le
  refine ⟨S'.le, S'.b, by rw [List.length_set, List.length_set]; exact S.len, fun j y h => ?_, fun j k y z l hjk hj hk mj mk ej ek => ?_⟩
  · rcases get_set_cases h with ⟨rfl, rfl, hl⟩ | ⟨hne, h2⟩
    · rw [List.getElem?_set_self (by rw [S.len]; exact hl)]
      exact hx hl
    · rw [List.getElem?_set_ne (fun z => hne z.symm)]
      exact S'.at_ j y h2
  · rcases get_set_cases hj with ⟨rfl, rfl, hl⟩ | ⟨hne, h2⟩
    · exact nm mj
    · rcases get_set_cases hk with ⟨rfl, rfl, hl⟩ | ⟨hne', h3⟩
      · exact nm mk
      · rw [List.getElem?_set_ne (fun z => hne z.symm)] at ej
        rw [List.getElem?_set_ne (fun z => hne' z.symm)] at ek
        exact S.sep j k y z l hjk h2 h3 mj mk ej ek
theorem SR.set {α : Type} [Rep α] (S : SR K We B ρ σ W) (le : W.Le W') {i : Nat} {v : V} {a : α} (r : rel K W'.s v a) : SR K We B (ρ.set i (.imm a)) (σ.set i (some v)) W' :=
  S.put le (fun z => z) fun _ => ⟨v, rfl, r⟩
theorem SR.setAny (S : SR K We B ρ σ W) (le : W.Le W') {i : Nat} {o : Option V} : SR K We B (ρ.set i .any) (σ.set i o) W' := S.put le (fun z => z) fun _ => trivial
/-- weaker slots -/
def SV.le : SV → SV → Prop
  | _, .any => True
  | x, y => x = y
inductive Wk : List SV → List SV → Prop
  | nil : Wk [] []
  | same {x : SV} {xs ys : List SV} : Wk xs ys → Wk (x :: xs) (x :: ys)
  | any {x : SV} {xs ys : List SV} : Wk xs ys → Wk (x :: xs) (.any :: ys)
theorem Wk.len {a b : List SV} (h : Wk a b) : a.length = b.length := by
  induction h with
  | nil => rfl
  | same _ ih => exact congrArg Nat.succ ih
  | any _ ih => exact congrArg Nat.succ ih
theorem Wk.get {a b : List SV} (h : Wk a b) : ∀ {i : Nat} {y : SV}, b[i]? = some y → y = .any ∨ a[i]? = some y := by
  induction h with
  | nil => intro i y e; simp at e
  | same _ ih =>
    intro i y e
    cases i with
    | zero => exact .inr e
    | succ i => exact ih (i := i) e
  | any _ ih =>
    intro i y e
    cases i with
    | zero => exact .inl (Option.some.inj e).symm
    | succ i => exact ih (i := i) e
theorem Wk.refl : ∀ a : List SV, Wk a a
  | [] => .nil
  | _ :: r => .same (Wk.refl r)
theorem SR.wk {ρ' : List SV} (S : SR K We B ρ σ W) (h : Wk ρ ρ') : SR K We B ρ' σ W := by
  refine ⟨S.le, S.b, S.len.trans h.len, fun i y e => ?_, fun j k y z l hjk hj hk mj mk ej ek => ?_⟩
  · rcases h.get e with rfl | e2
    · trivial
    · exact S.at_ i y e2
  · rcases h.get hj with rfl | e2
    · exact mj.elim
    · rcases h.get hk with rfl | e3
      · exact mk.elim
      · exact S.sep j k y z l hjk e2 e3 mj mk ej ek
end

/-! ### the weakest readings -/
section
variable {X : Cx}
abbrev RunE (X : Cx) (e : Expr) : TE := fun σ H Q => ∀ (pins : List (Addr × Obj)) (s : Shared), Inv X pins σ H s → wpAny (model X.prog X.w) X.A (eval e X.env) (EP X pins σ Q) X.xe s
abbrev RunT (X : Cx) (e : Expr) : TT := fun σ H Q => ∀ (pins : List (Addr × Obj)) (s : Shared), Inv X pins σ H s → wpAny (model X.prog X.w) X.A (isTrue e X.env (eval e X.env)) (TP X pins σ Q) X.xe s
abbrev RunW (X : Cx) (e : Expr) : TT := fun σ H Q => ∀ (whole : Sem Value) (pins : List (Addr × Obj)) (s : Shared), Inv X pins σ H s → wpAny (model X.prog X.w) X.A (isTrue e X.env whole) (TP X pins σ Q) X.xe s
abbrev RunS (X : Cx) (st : Stmt) : TS := fun D σ H => ∀ (pins : List (Addr × Obj)) (s : Shared), Inv X pins σ H s → wpAny (model X.prog X.w) X.A (exec st X.env) (SP X pins D) X.xe s
abbrev RunSs (X : Cx) (st : List Stmt) : TS := fun D σ H => ∀ (pins : List (Addr × Obj)) (s : Shared), Inv X pins σ H s → wpAny (model X.prog X.w) X.A (execs st X.env) (SP X pins D) X.xe s
theorem pe_run {e : Expr} : PE X e (RunE X e) := ⟨fun pins s _ _ _ I h => h pins s I⟩
theorem pt_run {e : Expr} : PT X e (RunT X e) := ⟨fun pins s _ _ _ I h => h pins s I⟩
theorem pw_run {e : Expr} : PW X e (RunW X e) := ⟨fun w pins s _ _ _ I h => h w pins s I⟩
theorem ps_run {st : Stmt} : PS X st (RunS X st) := ⟨fun pins s _ _ _ I h => h pins s I⟩
theorem pss_run {st : List Stmt} : PSs X st (RunSs X st) := ⟨fun pins s _ _ _ I h => h pins s I⟩
theorem useE {e : Expr} {t : TE} {σ : L2.St} {H : Hp} {Q : VK} (p : PE X e t) (h : t σ H Q) : RunE X e σ H Q := fun pins s I => p.run pins s σ H Q I h
theorem useT {e : Expr} {t : TT} {σ : L2.St} {H : Hp} {Q : Bool → Hp → Prop} (p : PT X e t) (h : t σ H Q) : RunT X e σ H Q := fun pins s I => p.run pins s σ H Q I h
theorem useW {e : Expr} {t : TT} {σ : L2.St} {H : Hp} {Q : Bool → Hp → Prop} (p : PW X e t) (h : t σ H Q) : RunW X e σ H Q := fun w pins s I => p.run w pins s σ H Q I h
theorem useS {st : Stmt} {t : TS} {σ : L2.St} {H : Hp} {D : Ends} (p : PS X st t) (h : t D σ H) : RunS X st D σ H := fun pins s I => p.run pins s σ H D I h
theorem useSs {st : List Stmt} {t : TS} {σ : L2.St} {H : Hp} {D : Ends} (p : PSs X st t) (h : t D σ H) : RunSs X st D σ H := fun pins s I => p.run pins s σ H D I h
end

/-! ### expressions -/
/-- e computes o, where o is some -/
structure Ep (X : Cx) (ρ : List SV) (e : Expr) {α : Type} [Rep α] (o : Option α) : Prop where
  run : ∀ a, o = some a → ∀ (We : Wd) (B : Hp) (σ : L2.St) (W : Wd) (Q : VK), SR X.K We B ρ σ W → (∀ v W', W.Le W' → rel X.K W'.s v a → Q v W'.h) → RunE X e σ W.h Q
/-- .. a new list -/
structure EpF (X : Cx) (ρ : List SV) (e : Expr) {α : Type} [Rep α] (o : Option (List α)) : Prop where
  run : ∀ a, o = some a → ∀ (We : Wd) (B : Hp) (σ : L2.St) (W : Wd) (Q : VK), SR X.K We B ρ σ W → (∀ p vs W', W.Le W' → fre W.h p → W'.s p = some (.lst vs) → Paired (fun v x => rel X.K W'.s v x) vs a → Q (.ref p) W'.h) → RunE X e σ W.h Q
/-- .. a list that may be read (settled or not) -/
structure Lp (X : Cx) (ρ : List SV) (e : Expr) {α : Type} [Rep α] (o : Option (List α)) : Prop where
  run : ∀ a, o = some a → ∀ (We : Wd) (B : Hp) (σ : L2.St) (W : Wd) (Q : VK), SR X.K We B ρ σ W → (∀ p vs W', W.Le W' → W'.h p = some (.lst vs) → Paired (fun v x => rel X.K W'.s v x) vs a → Q (.ref p) W'.h) → RunE X e σ W.h Q
/-- a test -/
structure Tp (X : Cx) (ρ : List SV) (e : Expr) (o : Option Bool) : Prop where
  run : ∀ a, o = some a → ∀ (We : Wd) (B : Hp) (σ : L2.St) (W : Wd) (Q : Bool → Hp → Prop), SR X.K We B ρ σ W → (∀ W', W.Le W' → Q a W'.h) → RunT X e σ W.h Q
structure Wp (X : Cx) (ρ : List SV) (e : Expr) (o : Option Bool) : Prop where
  run : ∀ a, o = some a → ∀ (We : Wd) (B : Hp) (σ : L2.St) (W : Wd) (Q : Bool → Hp → Prop), SR X.K We B ρ σ W → (∀ W', W.Le W' → Q a W'.h) → RunW X e σ W.h Q
section
variable {X : Cx} {ρ : List SV} {pos : Pos} {e a b c : Expr}
theorem EpF.ep {α : Type} [Rep α] {o : Option (List α)} (h : EpF X ρ e o) : Ep X ρ e o := .mk fun x hx We B σ W Q S k => h.run x hx We B σ W Q S fun p vs W' le _ hp r => k _ W' le ⟨p, vs, rfl, hp, r⟩
theorem Ep.lp {α : Type} [Rep α] {o : Option (List α)} (h : Ep X ρ e o) : Lp X ρ e o := .mk fun x hx We B σ W Q S k => h.run x hx We B σ W Q S fun v W' le ⟨p, vs, e1, e2, r⟩ => by
  subst e1
  exact k p vs W' le (W'.e _ _ e2) r
theorem EpF.lp {α : Type} [Rep α] {o : Option (List α)} (h : EpF X ρ e o) : Lp X ρ e o := h.ep.lp
theorem Ep.of_eq {α : Type} [Rep α] {o o' : Option α} (h : Ep X ρ e o) (q : o' = o) : Ep X ρ e o' := by rw [q]; exact h

theorem ep_var {α : Type} [Rep α] (i : Nat) {x : Str} {p : α} (hρ : ρ[i]? = some (.imm p) := by rfl) (hN : X.N[i]? = some x := by rfl) (hv : Vis X.env.scope x := by first | exact Or.inl rfl | exact Or.inr (Or.inl rfl) | exact Or.inr (Or.inr rfl)) (hd : (x == ("__debug__" : Str)) = false := by decide)
    (hcd : (x == ("__classdict__" : Str)) = false := by decide) : Ep X ρ (.Name x pos) (some p) := .mk fun y hy We B σ W Q S k => by
  cases hy
  obtain ⟨v, hv1, hv2⟩ := S.imm hρ
  exact useE (pe_var hN hv hd hcd) ⟨v, hv1, k v W (.refl W) hv2⟩
/-- a list that is still changed, read -/
theorem lp_var {α : Type} [Rep α] (i : Nat) {x : Str} {m : ML α} (hρ : ρ[i]? = some (.mut m) := by rfl) (hN : X.N[i]? = some x := by rfl) (hv : Vis X.env.scope x := by first | exact Or.inl rfl | exact Or.inr (Or.inl rfl) | exact Or.inr (Or.inr rfl)) (hd : (x == ("__debug__" : Str)) = false := by decide)
    (hcd : (x == ("__classdict__" : Str)) = false := by decide) : Lp X ρ (.Name x pos) (some m.xs) := .mk fun y hy We B σ W Q S k => by
  cases hy
  obtain ⟨l, ob, e1, _, _, hh, vs, rfl, r⟩ := S.at_ i _ hρ
  exact useE (pe_var hN hv hd hcd) ⟨_, e1, k l vs W (.refl W) hh r⟩
theorem ep_int {i : Int} {j} : Ep X ρ (.Constant (.int i) j pos) (some i) := .mk fun y hy We B σ W Q S k => by
  cases hy
  exact useE pe_int (k _ W (.refl W) rfl)
theorem ep_bl {i : Bool} {j} : Ep X ρ (.Constant (.bool i) j pos) (some i) := .mk fun y hy We B σ W Q S k => by
  cases hy
  exact useE pe_bl (k _ W (.refl W) rfl)
theorem ep_non {j} : Ep X ρ (.Constant .none j pos) (some ()) := .mk fun y hy We B σ W Q S k => by
  cases hy
  exact useE pe_non (k _ W (.refl W) rfl)
theorem ep_str {x : Str} {j} : Ep X ρ (.Constant (.str x) j pos) (some x) := .mk fun y hy We B σ W Q S k => by
  cases hy
  exact useE pe_str (k _ W (.refl W) rfl)
/-- as an Option -/
theorem Ep.opt {α : Type} [Rep α] {o : Option α} (h : Ep X ρ e o) : Ep X ρ e (o.map some) := .mk fun y hy We B σ W Q S k => by
  cases o with
  | none => cases hy
  | some a =>
    cases hy
    exact h.run a rfl We B σ W Q S k
theorem ep_nonO {α : Type} [Rep α] {j} : Ep X ρ (.Constant .none j pos) (some (none : Option α)) := .mk fun y hy We B σ W Q S k => by
  cases hy
  exact useE pe_non (k _ W (.refl W) rfl)

/-! operators -/
def bind2 {α β γ : Type} (oa : Option α) (ob : Option β) (f : α → β → Option γ) : Option γ := oa.bind fun x => ob.bind fun y => f x y
theorem bind_some {α : Type _} {γ : Type _} {oa : Option α} {f : α → Option γ} {z : γ} (h : oa.bind f = some z) : ∃ x, oa = some x ∧ f x = some z := by
  cases oa with
  | none => cases h
  | some x => exact ⟨x, rfl, h⟩
theorem bind2_some {α β γ : Type} {oa : Option α} {ob : Option β} {f : α → β → Option γ} {z : γ} (h : bind2 oa ob f = some z) : ∃ x y, oa = some x ∧ ob = some y ∧ f x y = some z := by
  obtain ⟨x, hx, h⟩ := bind_some h
  obtain ⟨y, hy, h⟩ := bind_some h
  exact ⟨x, y, hx, hy, h⟩
/-- what a rule by values must give -/
def OpV (X : Cx) (r : R2) {α β γ : Type} [Rep α] [Rep β] [Rep γ] (f : α → β → Option γ) : Prop :=
  ∀ x y z (W : Wd) v u (Q : VK), f x y = some z → rel X.K W.s v x → rel X.K W.s u y → (∀ v' W', W.Le W' → rel X.K W'.s v' z → Q v' W'.h) → r v u W.h Q
theorem ep_t2 {α β γ : Type} [Rep α] [Rep β] [Rep γ] {oa : Option α} {ob : Option β} {f : α → β → Option γ} {r : R2} {e : Expr} (p : PE X e (tOp r (RunE X a) (RunE X b))) (ha : Ep X ρ a oa) (hb : Ep X ρ b ob) (hr : OpV X r f) :
    Ep X ρ e (bind2 oa ob f) := .mk fun z hz We B σ W Q S k => by
  obtain ⟨x, y, hx, hy, hf⟩ := bind2_some hz
  refine useE p (ha.run x hx We B σ W _ S fun v W1 l1 r1 => hb.run y hy We B σ W1 _ (S.mono l1) fun u W2 l2 r2 => ?_)
  exact hr x y z W2 v u Q hf (Rep.mono l2.s r1) r2 fun v' W' l3 r3 => k v' W' ((l1.trans l2).trans l3) r3
theorem ep_bin {op : Operator} {α β γ : Type} [Rep α] [Rep β] [Rep γ] {oa : Option α} {ob : Option β} {f : α → β → Option γ} {r : R2} (ho : OpR X (binaryOp op) r) (hr : OpV X r f) (ha : Ep X ρ a oa) (hb : Ep X ρ b ob) :
    Ep X ρ (.BinOp a op b pos) (bind2 oa ob f) := ep_t2 (pe_op ho pe_run pe_run) ha hb hr
/-- a comparison, as a value and as a test -/
structure Cq (X : Cx) (ρ : List SV) (op : CmpOp) (a b : Expr) (o : Option Bool) : Prop where
  e : ∀ pos, Ep X ρ (.Compare a [op] [b] pos) o
  t : ∀ pos, Tp X ρ (.Compare a [op] [b] pos) o
theorem cq_mk {op : CmpOp} {α β : Type} [Rep α] [Rep β] {oa : Option α} {ob : Option β} {f : α → β → Option Bool} {r : R2} (ho : OpR X (compareOp op) r) (hm : behindInMarks op b = false) (hr : OpV X r f) (ha : Ep X ρ a oa) (hb : Ep X ρ b ob) :
    Cq X ρ op a b (bind2 oa ob f) := ⟨fun pos => ep_t2 (pe_cmpR ho pe_run pe_run hm) ha hb hr, fun pos => .mk fun z hz We B σ W Q S k => by
  obtain ⟨x, y, hx, hy, hf⟩ := bind2_some hz
  refine useT (pt_cmpR ho pe_run pe_run hm) (ha.run x hx We B σ W _ S fun v W1 l1 r1 => hb.run y hy We B σ W1 _ (S.mono l1) fun u W2 l2 r2 => ?_)
  exact hr x y z W2 v u _ hf (Rep.mono l2.s r1) r2 fun v' W' l3 r3 => ⟨z, r3, k W' ((l1.trans l2).trans l3)⟩⟩
theorem opv_I0 {g : Int → Int → Int} : OpV X (rI0 fun i j => .int (g i j)) (fun i j => some (g i j)) := fun x y z W v u Q hf h1 h2 k => by
  cases hf
  exact ⟨x, y, h1, h2, k _ W (.refl W) rfl⟩
theorem opv_B0 {g : Int → Int → Bool} : OpV X (rI0 fun i j => .bl (g i j)) (fun i j => some (g i j)) := fun x y z W v u Q hf h1 h2 k => by
  cases hf
  exact ⟨x, y, h1, h2, k _ W (.refl W) rfl⟩
theorem opv_I {C : Int → Int → Prop} {c : Int → Int → Bool} (hc : ∀ i j, c i j = true → C i j) {g : Int → Int → Int} : OpV X (rI C fun i j => .int (g i j)) (fun i j => if c i j then some (g i j) else none) := fun x y z W v u Q hf h1 h2 k => by
  dsimp only at hf
  split at hf
  · rename_i h
    cases hf
    exact ⟨x, y, h1, h2, hc _ _ h, k _ W (.refl W) rfl⟩
  · cases hf
def oadd (x y : Option Int) : Option Int := bind2 x y fun i j => some (i + j)
def osub (x y : Option Int) : Option Int := bind2 x y fun i j => some (i - j)
/-- numbers that are surely small enough to be multiplied -/
def smallI (i : Int) : Bool := decide (i.natAbs < 2 ^ 600)
def mulOk (i j : Int) : Bool := (decide (-(2 ^ 64) < i) && decide (i < 2 ^ 64)) || (decide (-(2 ^ 64) < j) && decide (j < 2 ^ 64)) || (smallI i && smallI j)
def omul (x y : Option Int) : Option Int := bind2 x y fun i j => if mulOk i j then some (i * j) else none
def divOk (_ j : Int) : Bool := decide (j ≠ 0) && smallI j
def ofdiv (x y : Option Int) : Option Int := bind2 x y fun i j => if divOk i j then some (i.fdiv j) else none
theorem op_fdivX : OpR X (binaryOp .FloorDiv) (rI (fun _ j => j ≠ 0 ∧ j.natAbs.log2 < 9000) fun i j => .int (i.fdiv j)) := opI fun _ _ _ _ _ _ _ hc q => floordiv_int hc.1 q (.inl (PyProof.noPylong_of_log2 hc.2))
def omod (x y : Option Int) : Option Int := bind2 x y fun i j => if decide (0 < j) then some (i % j) else none
def powOk (i j : Int) : Bool := decide (0 ≤ j) && decide (j ≤ 1000) && decide (i.natAbs < 2 ^ 64)
def opow (x y : Option Int) : Option Int := bind2 x y fun i j => if powOk i j then some (i ^ j.toNat) else none
theorem log_small {i : Int} (h : smallI i = true) : i.natAbs.log2 < 601 := by
  have h1 : i.natAbs < 2 ^ 600 := of_decide_eq_true h
  by_cases e : i.natAbs = 0
  · rw [e]
    decide
  · have := (Nat.log2_lt e).mpr h1
    omega
theorem mulOk_ok {i j : Int} (h : mulOk i j = true) : CMul i j ∨ CMulW i j := by
  unfold mulOk at h
  simp only [Bool.or_eq_true, Bool.and_eq_true, decide_eq_true_eq] at h
  rcases h with (h | h) | h
  · exact .inl (.inl h)
  · exact .inl (.inr h)
  · refine .inr ?_
    have h1 := log_small h.1
    have h2 := log_small h.2
    show i.natAbs.log2 + j.natAbs.log2 < 1000000
    omega
theorem opv_mul : OpV X (fun x y H Q => rI CMul (fun i j => .int (i * j)) x y H Q ∨ rI CMulW (fun i j => .int (i * j)) x y H Q) (fun i j => if mulOk i j then some (i * j) else none) := fun x y z W v u Q hf h1 h2 k => by
  dsimp only at hf
  split at hf
  · rename_i h
    cases hf
    rcases mulOk_ok h with hc | hc
    · exact .inl ⟨x, y, h1, h2, hc, k _ W (.refl W) rfl⟩
    · exact .inr ⟨x, y, h1, h2, hc, k _ W (.refl W) rfl⟩
  · cases hf
theorem ep_add {oa ob : Option Int} (ha : Ep X ρ a oa) (hb : Ep X ρ b ob) : Ep X ρ (.BinOp a .Add b pos) (oadd oa ob) := ep_bin op_add opv_I0 ha hb
theorem ep_sub {oa ob : Option Int} (ha : Ep X ρ a oa) (hb : Ep X ρ b ob) : Ep X ρ (.BinOp a .Sub b pos) (osub oa ob) := ep_bin op_sub opv_I0 ha hb
theorem ep_mul {oa ob : Option Int} (ha : Ep X ρ a oa) (hb : Ep X ρ b ob) : Ep X ρ (.BinOp a .Mult b pos) (omul oa ob) := ep_bin (OpR.or op_mul op_mulW) opv_mul ha hb
theorem ep_fdiv {oa ob : Option Int} (ha : Ep X ρ a oa) (hb : Ep X ρ b ob) : Ep X ρ (.BinOp a .FloorDiv b pos) (ofdiv oa ob) := ep_bin op_fdivX (opv_I fun i j h => by
  unfold divOk at h
  simp only [Bool.and_eq_true, decide_eq_true_eq] at h
  exact ⟨h.1, Nat.lt_trans (log_small h.2) (by decide)⟩) ha hb
theorem ep_mod {oa ob : Option Int} (ha : Ep X ρ a oa) (hb : Ep X ρ b ob) : Ep X ρ (.BinOp a .Mod b pos) (omod oa ob) := ep_bin op_mod (opv_I fun i j h => of_decide_eq_true h) ha hb
theorem ep_pow {oa ob : Option Int} (ha : Ep X ρ a oa) (hb : Ep X ρ b ob) : Ep X ρ (.BinOp a .Pow b pos) (opow oa ob) := ep_bin op_pow (opv_I fun i j h => by
  unfold powOk at h
  simp only [Bool.and_eq_true, decide_eq_true_eq] at h
  exact ⟨h.1.1, by omega, h.2⟩) ha hb
def oneg (x : Option Int) : Option Int := x.bind fun i => some (-i)
theorem ep_neg {oa : Option Int} (ha : Ep X ρ a oa) : Ep X ρ (.UnaryOp .USub a pos) (oneg oa) := .mk fun z hz We B σ W Q S k => by
  obtain ⟨x, hx, hf⟩ := bind_some hz
  cases hf
  refine useE (pe_un un_neg pe_run) (ha.run x hx We B σ W _ S fun v W1 l1 r1 => ⟨x, r1, k _ W1 l1 rfl⟩)
def olt (x y : Option Int) : Option Bool := bind2 x y fun i j => some (decide (i < j))
def ole (x y : Option Int) : Option Bool := bind2 x y fun i j => some (decide (i ≤ j))
def ogt (x y : Option Int) : Option Bool := bind2 x y fun i j => some (decide (j < i))
def oge (x y : Option Int) : Option Bool := bind2 x y fun i j => some (decide (j ≤ i))
theorem cq_lt {oa ob : Option Int} (ha : Ep X ρ a oa) (hb : Ep X ρ b ob) : Cq X ρ .Lt a b (olt oa ob) := cq_mk op_lt (nomark _) opv_B0 ha hb
theorem cq_le {oa ob : Option Int} (ha : Ep X ρ a oa) (hb : Ep X ρ b ob) : Cq X ρ .LtE a b (ole oa ob) := cq_mk op_le (nomark _) opv_B0 ha hb
theorem cq_gt {oa ob : Option Int} (ha : Ep X ρ a oa) (hb : Ep X ρ b ob) : Cq X ρ .Gt a b (ogt oa ob) := cq_mk op_gt (nomark _) opv_B0 ha hb
theorem cq_ge {oa ob : Option Int} (ha : Ep X ρ a oa) (hb : Ep X ρ b ob) : Cq X ρ .GtE a b (oge oa ob) := cq_mk op_ge (nomark _) opv_B0 ha hb
/-- == and != of flat things -/
class Sc (α : Type) extends Rep α where
  val : α → V
  is : ∀ {K : PySem.W.Frag} {H : Hp} {v : V} {a : α}, rel K H v a → v = val a
  inj : ∀ {a b : α}, val a = val b → a = b
  sc : ∀ a b : α, scal (val a) (val b) = true
instance : Sc Int := ⟨V.int, fun h => h, fun h => V.int.inj h, fun _ _ => rfl⟩
instance : Sc Bool := ⟨V.bl, fun h => h, fun h => V.bl.inj h, fun _ _ => rfl⟩
instance : Sc Str := ⟨V.str, fun h => h, fun h => V.str.inj h, fun _ _ => rfl⟩
def oeq {α : Type} [DecidableEq α] (x y : Option α) : Option Bool := bind2 x y fun i j => some (decide (i = j))
def one_ {α : Type} [DecidableEq α] (x y : Option α) : Option Bool := bind2 x y fun i j => some (!decide (i = j))
theorem dec_val {α : Type} [Sc α] [DecidableEq α] (x y : α) : decide (Sc.val x = Sc.val y) = decide (x = y) := by
  by_cases h : x = y
  · rw [decide_eq_true h, h, decide_eq_true rfl]
  · rw [decide_eq_false h, decide_eq_false fun z => h (Sc.inj z)]
theorem cq_eqS {α : Type} [Sc α] [DecidableEq α] {oa ob : Option α} (ha : Ep X ρ a oa) (hb : Ep X ρ b ob) : Cq X ρ .Eq a b (oeq oa ob) := cq_mk op_eq (nomark _) (fun x y z W v u Q hf h1 h2 k => by
  cases hf
  rw [Sc.is h1, Sc.is h2]
  exact ⟨Sc.sc x y, k _ W (.refl W) (by rw [dec_val] <;> rfl)⟩) ha hb
theorem cq_neS {α : Type} [Sc α] [DecidableEq α] {oa ob : Option α} (ha : Ep X ρ a oa) (hb : Ep X ρ b ob) : Cq X ρ .NotEq a b (one_ oa ob) := cq_mk op_ne (nomark _) (fun x y z W v u Q hf h1 h2 k => by
  cases hf
  rw [Sc.is h1, Sc.is h2]
  exact ⟨Sc.sc x y, k _ W (.refl W) (by rw [dec_val] <;> rfl)⟩) ha hb

/-! tests -/
theorem tp_val {o : Option Bool} (h : Ep X ρ e o) (he : ∀ whole, isTrue e X.env whole = (do let v ← whole; standAt e.pos; holding [v] (truthy v)) := by intro _; rfl) : Tp X ρ e o := .mk fun z hz We B σ W Q S k =>
  useT (pt_val pe_run he) (h.run z hz We B σ W _ S fun v W1 l1 r1 => ⟨z, r1, k W1 l1⟩)
def onot (x : Option Bool) : Option Bool := x.bind fun b => some (!b)
def oand (x y : Option Bool) : Option Bool := x.bind fun b => if b then y else some false
def oor (x y : Option Bool) : Option Bool := x.bind fun b => if b then some true else y
theorem tp_not {o : Option Bool} (h : Tp X ρ a o) : Tp X ρ (.UnaryOp .Not a pos) (onot o) := .mk fun z hz We B σ W Q S k => by
  obtain ⟨x, hx, hf⟩ := bind_some hz
  cases hf
  exact useT (pt_not pt_run) (h.run x hx We B σ W _ S fun W1 l1 => k W1 l1)
theorem tp_w {o : Option Bool} (h : Wp X ρ e o) : Tp X ρ e o := .mk fun z hz We B σ W Q S k => useT pw_run.pt (h.run z hz We B σ W Q S k)
theorem wp_and1 {o : Option Bool} (h : Tp X ρ a o) : Wp X ρ (.BoolOp .And [a] pos) o := .mk fun z hz We B σ W Q S k => useW (pw_and1 pt_run) (h.run z hz We B σ W Q S k)
theorem wp_or1 {o : Option Bool} (h : Tp X ρ a o) : Wp X ρ (.BoolOp .Or [a] pos) o := .mk fun z hz We B σ W Q S k => useW (pw_or1 pt_run) (h.run z hz We B σ W Q S k)
theorem wp_and {oa ob : Option Bool} {rest : List Expr} (ha : Tp X ρ a oa) (hb : Wp X ρ (.BoolOp .And (b :: rest) pos) ob) : Wp X ρ (.BoolOp .And (a :: b :: rest) pos) (oand oa ob) := .mk fun z hz We B σ W Q S k => by
  obtain ⟨x, hx, hf⟩ := bind_some hz
  refine useW (pw_and pt_run pw_run) (ha.run x hx We B σ W _ S fun W1 l1 => ?_)
  cases x with
  | true => exact iteT (hb.run z hf We B σ W1 Q (S.mono l1) fun W2 l2 => k W2 (l1.trans l2))
  | false =>
    cases hf
    exact iteF (k W1 l1)
theorem wp_or {oa ob : Option Bool} {rest : List Expr} (ha : Tp X ρ a oa) (hb : Wp X ρ (.BoolOp .Or (b :: rest) pos) ob) : Wp X ρ (.BoolOp .Or (a :: b :: rest) pos) (oor oa ob) := .mk fun z hz We B σ W Q S k => by
  obtain ⟨x, hx, hf⟩ := bind_some hz
  refine useW (pw_or pt_run pw_run) (ha.run x hx We B σ W _ S fun W1 l1 => ?_)
  cases x with
  | false => exact iteF (hb.run z hf We B σ W1 Q (S.mono l1) fun W2 l2 => k W2 (l1.trans l2))
  | true =>
    cases hf
    exact iteT (k W1 l1)
/-! the same as values -/
theorem ep_one {op} {o : Option Bool} (h : Ep X ρ a o) : Ep X ρ (.BoolOp op [a] pos) o := .mk fun z hz We B σ W Q S k => useE (pe_one pe_run) (h.run z hz We B σ W Q S k)
theorem ep_and {oa ob : Option Bool} {rest : List Expr} (ha : Ep X ρ a oa) (hb : Ep X ρ (.BoolOp .And (b :: rest) pos) ob) : Ep X ρ (.BoolOp .And (a :: b :: rest) pos) (oand oa ob) := .mk fun z hz We B σ W Q S k => by
  obtain ⟨x, hx, hf⟩ := bind_some hz
  refine useE (pe_and pe_run pe_run) (ha.run x hx We B σ W _ S fun v W1 l1 r1 => ⟨x, r1, ?_⟩)
  cases x with
  | true => exact iteT (hb.run z hf We B σ W1 Q (S.mono l1) fun v W2 l2 => k v W2 (l1.trans l2))
  | false =>
    cases hf
    exact iteF (k _ W1 l1 rfl)
theorem ep_or {oa ob : Option Bool} {rest : List Expr} (ha : Ep X ρ a oa) (hb : Ep X ρ (.BoolOp .Or (b :: rest) pos) ob) : Ep X ρ (.BoolOp .Or (a :: b :: rest) pos) (oor oa ob) := .mk fun z hz We B σ W Q S k => by
  obtain ⟨x, hx, hf⟩ := bind_some hz
  refine useE (pe_or pe_run pe_run) (ha.run x hx We B σ W _ S fun v W1 l1 r1 => ⟨x, r1, ?_⟩)
  cases x with
  | false => exact iteF (hb.run z hf We B σ W1 Q (S.mono l1) fun v W2 l2 => k v W2 (l1.trans l2))
  | true =>
    cases hf
    exact iteT (k _ W1 l1 rfl)
theorem ep_not {oa : Option Bool} (ha : Ep X ρ a oa) : Ep X ρ (.UnaryOp .Not a pos) (onot oa) := .mk fun z hz We B σ W Q S k => by
  obtain ⟨x, hx, hf⟩ := bind_some hz
  cases hf
  exact useE (pe_not pe_run) (ha.run x hx We B σ W _ S fun v W1 l1 r1 => ⟨x, r1, k _ W1 l1 rfl⟩)
end
end T
/-! typed layer, second part: tuples, lists, targets, blocks, loops, calls -/
namespace T
variable [Tb]
open PySem PySem.Spec PyProof.Rows L2
open Evl (Ex)
open Rep (rel)

section
variable {X : Cx} {ρ : List SV} {pos : Pos} {e a b c d : Expr}
/-- not starred -/
def NS (X : Cx) (e : Expr) : Prop := ∀ es, starEach (e :: es) X.env = (false, eval e X.env) :: starEach es X.env
/-! ### tuples -/
def omk2 {α β : Type} (x : Option α) (y : Option β) : Option (α × β) := bind2 x y fun i j => some (i, j)
theorem ep_pair {α β : Type} [Rep α] [Rep β] {oa : Option α} {ob : Option β} {x1} (ha : Ep X ρ a oa) (hb : Ep X ρ b ob) (na : NS X a := by intro _; rfl) (nb : NS X b := by intro _; rfl) : Ep X ρ (.Tuple [a, b] x1 pos) (omk2 oa ob) := .mk fun z hz We B σ W Q S k => by
  obtain ⟨x, y, hx, hy, hf⟩ := bind2_some hz
  cases hf
  refine useE (pe_tup (pa_cons pe_run (pa_cons pe_run pa_nil (nb _)) (na _))) (ha.run x hx We B σ W _ S fun v W1 l1 r1 => hb.run y hy We B σ W1 _ (S.mono l1) fun u W2 l2 r2 => ⟨(by show 2 ≤ sizeLine; decide), fun p hp => ?_⟩)
  have l3 := Wd.Le.new W2 (.tup [v, u]) hp
  exact k (.ref p) (W2.new p (.tup [v, u]) hp) ((l1.trans l2).trans l3) ⟨p, v, u, rfl, upd_same, Rep.mono l3.s (Rep.mono l2.s r1), Rep.mono l3.s r2⟩
def omk3 (x y z : Option Int) : Option Tri := x.bind fun i => y.bind fun j => z.bind fun k => some ⟨i, j, k⟩
theorem ep_tri {oa ob oc : Option Int} {x1} (ha : Ep X ρ a oa) (hb : Ep X ρ b ob) (hc : Ep X ρ c oc) (na : NS X a := by intro _; rfl) (nb : NS X b := by intro _; rfl) (nc : NS X c := by intro _; rfl) : Ep X ρ (.Tuple [a, b, c] x1 pos) (omk3 oa ob oc) := .mk fun z hz We B σ W Q S k => by
  obtain ⟨x, hx, hf⟩ := bind_some hz
  obtain ⟨y, hy, hf⟩ := bind_some hf
  obtain ⟨w, hw, hf⟩ := bind_some hf
  cases hf
  refine useE (pe_tup (pa_cons pe_run (pa_cons pe_run (pa_cons pe_run pa_nil (nc _)) (nb _)) (na _))) (ha.run x hx We B σ W _ S fun v W1 l1 r1 => hb.run y hy We B σ W1 _ (S.mono l1) fun u W2 l2 r2 => hc.run w hw We B σ W2 _ (S.mono (l1.trans l2)) fun t W3 l3 r3 => ⟨(by show 3 ≤ sizeLine; decide), fun p hp => ?_⟩)
  have l4 := Wd.Le.new W3 (.tup [v, u, t]) hp
  cases r1
  cases r2
  cases r3
  exact k (.ref p) (W3.new p _ hp) (((l1.trans l2).trans l3).trans l4) ⟨p, rfl, upd_same⟩
theorem ix_tup_use {i : Int} {j} {σ : L2.St} {H : Hp} {Q : VK} (h : RunE X a σ H fun x H1 => ∃ p xs v, x = .ref p ∧ SqT X.K H1 p xs ∧ atI xs i = some v ∧ Q v H1) (hs : PlainIx (.Constant (.int i) j pos)) {pos' : Pos} : RunE X (.Subscript a (.Constant (.int i) j pos) pos') σ H Q :=
  useE (pe_ix ix_tup (⟨fun pins s σ H Q I h => h pins s I⟩ : PE X a (RunE X a)) pe_int hs) (fun pins s I => wpAny_mono (h pins s I) (fun u s' ⟨v, H', I', r, p, xs, w, e1, e2, e3, q⟩ => ⟨v, H', I', r, p, xs, i, w, e1, rfl, e2, e3, q⟩) fun _ _ z => z)
def ofst {α β : Type} (x : Option (α × β)) : Option α := x.bind fun p => some p.1
def osnd {α β : Type} (x : Option (α × β)) : Option β := x.bind fun p => some p.2
theorem ep_fst {α β : Type} [Rep α] [Rep β] {oa : Option (α × β)} {j} {p1 : Pos} (ha : Ep X ρ a oa) : Ep X ρ (.Subscript a (.Constant (.int 0) j p1) pos) (ofst oa) := .mk fun z hz We B σ W Q S k => by
  obtain ⟨x, hx, hf⟩ := bind_some hz
  cases hf
  refine ix_tup_use (ha.run x hx We B σ W _ S fun v W1 l1 ⟨p, y, w, e1, e2, r1, r2⟩ => ?_) (fun _ _ => rfl)
  exact ⟨p, [y, w], y, e1, .of (W1.e _ _ e2), rfl, k y W1 l1 r1⟩
theorem ep_snd {α β : Type} [Rep α] [Rep β] {oa : Option (α × β)} {j} {p1 : Pos} (ha : Ep X ρ a oa) : Ep X ρ (.Subscript a (.Constant (.int 1) j p1) pos) (osnd oa) := .mk fun z hz We B σ W Q S k => by
  obtain ⟨x, hx, hf⟩ := bind_some hz
  cases hf
  refine ix_tup_use (ha.run x hx We B σ W _ S fun v W1 l1 ⟨p, y, w, e1, e2, r1, r2⟩ => ?_) (fun _ _ => rfl)
  exact ⟨p, [y, w], w, e1, .of (W1.e _ _ e2), rfl, k w W1 l1 r2⟩
def otri (x : Option Tri) (i : Option Int) : Option Int := bind2 x i fun t i => atI [t.a, t.b, t.c] i
theorem atI_map {α β : Type} (f : α → β) (xs : List α) (i : Int) : atI (xs.map f) i = (atI xs i).map f := by
  unfold atI
  rw [List.length_map]
  cases ixN xs.length i with
  | none => rfl
  | some j =>
    show (xs.map f)[j]? = _
    rw [List.getElem?_map]
    rfl
theorem ep_trix {oa : Option Tri} {ob : Option Int} (ha : Ep X ρ a oa) (hb : Ep X ρ b ob) (hs : PlainIx b := by exact fun _ _ => rfl) : Ep X ρ (.Subscript a b pos) (otri oa ob) :=
  ep_t2 (pe_ix ix_tup pe_run pe_run hs) ha hb fun x y z W v u Q hf ⟨p, e1, e2⟩ h2 k => by
    cases h2
    refine ⟨p, _, y, V.int z, e1, rfl, .of (W.e _ _ e2), ?_, k _ W (.refl W) rfl⟩
    have h3 := atI_map V.int [x.a, x.b, x.c] y
    rw [hf] at h3
    exact h3

/-! ### lists -/
theorem pget {α β : Type} {F : α → β → Prop} : ∀ {l₁ : List α} {l₂ : List β} {j : Nat} {y : β}, Paired F l₁ l₂ → l₂[j]? = some y → ∃ x, l₁[j]? = some x ∧ F x y
  | _, _, j, y, .nil, h => by simp at h
  | _, _, 0, y, .cons r t, h => by
    simp at h
    subst h
    exact ⟨_, rfl, r⟩
  | _, _, j + 1, y, .cons r t, h => by
    obtain ⟨x, h1, h2⟩ := pget (j := j) (y := y) t (by simpa using h)
    exact ⟨x, by simpa using h1, h2⟩
theorem plen {α β : Type} {F : α → β → Prop} {l₁ : List α} {l₂ : List β} (h : Paired F l₁ l₂) : l₁.length = l₂.length := Paired.length h
theorem papp {α β : Type} {F : α → β → Prop} : ∀ {l₁ l₁' : List α} {l₂ l₂' : List β}, Paired F l₁ l₂ → Paired F l₁' l₂' → Paired F (l₁ ++ l₁') (l₂ ++ l₂')
  | _, _, _, _, .nil, s => s
  | _, _, _, _, .cons r t, s => .cons r (papp t s)
theorem ptake {α β : Type} {F : α → β → Prop} : ∀ {l₁ : List α} {l₂ : List β} (n : Nat), Paired F l₁ l₂ → Paired F (l₁.take n) (l₂.take n)
  | _, _, 0, _ => .nil
  | _, _, _ + 1, .nil => .nil
  | _, _, n + 1, .cons r t => .cons r (ptake n t)
theorem pdrop {α β : Type} {F : α → β → Prop} : ∀ {l₁ : List α} {l₂ : List β} (n : Nat), Paired F l₁ l₂ → Paired F (l₁.drop n) (l₂.drop n)
  | _, _, 0, r => r
  | _, _, _ + 1, .nil => .nil
  | _, _, n + 1, .cons _ t => pdrop n t
theorem prev {α β : Type} {F : α → β → Prop} : ∀ {l₁ : List α} {l₂ : List β}, Paired F l₁ l₂ → Paired F l₁.reverse l₂.reverse
  | _, _, .nil => .nil
  | _, _, .cons r t => by
    rw [List.reverse_cons, List.reverse_cons]
    exact papp (prev t) (.cons r .nil)
theorem pat {α β : Type} {F : α → β → Prop} {l₁ : List α} {l₂ : List β} {i : Int} {y : β} (h : Paired F l₁ l₂) (e : atI l₂ i = some y) : ∃ x, atI l₁ i = some x ∧ F x y := by
  unfold atI at e ⊢
  rw [plen h]
  obtain ⟨j, hj, e2⟩ := bind_some e
  obtain ⟨x, h1, h2⟩ := pget h e2
  exact ⟨x, by rw [hj]; exact h1, h2⟩
def oidx {α : Type} (x : Option (List α)) (i : Option Int) : Option α := bind2 x i fun xs i => atI xs i
theorem ep_idx {α : Type} [Rep α] {oa : Option (List α)} {ob : Option Int} (ha : Lp X ρ a oa) (hb : Ep X ρ b ob) (hs : PlainIx b := by exact fun _ _ => rfl) : Ep X ρ (.Subscript a b pos) (oidx oa ob) := .mk fun z hz We B σ W Q S k => by
  obtain ⟨x, y, hx, hy, hf⟩ := bind2_some hz
  refine useE (pe_ix ix_list pe_run pe_run hs) (ha.run x hx We B σ W _ S fun p vs W1 l1 hp r1 => hb.run y hy We B σ W1 _ (S.mono l1) fun u W2 l2 r2 => ?_)
  obtain ⟨v, hv, rv⟩ := pat r1 hf
  exact ⟨p, vs, y, v, rfl, r2, .of (l2.h _ _ hp rfl), hv, k v W2 (l1.trans l2) (Rep.mono l2.s rv)⟩
def olen {α : Type} (x : Option (List α)) : Option Int := x.bind fun xs => some xs.length
theorem ep_len {α : Type} [Rep α] {oa : Option (List α)} {p1 : Pos} (hg : Gl X "len") (hm : X.mg "len" = none) (ha : Lp X ρ a oa)
    (hst : NS X a := by intro _; rfl) : Ep X ρ (.Call (.Name "len" p1) [a] [] pos) (olen oa) := .mk fun z hz We B σ W Q S k => by
  obtain ⟨x, hx, hf⟩ := bind_some hz
  cases hf
  refine useE (pe_callB call_len_seq hg hm PySem.boot_len (pa_cons pe_run pa_nil (hst _)) (he := hst _)) (ha.run x hx We B σ W _ S fun p vs W1 l1 hp r1 => ?_)
  exact ⟨p, vs, rfl, .inl (.of hp), by rw [plen r1]; exact k _ W1 l1 rfl⟩
/-- sizes -/
def capOk (n : Nat) : Bool := decide (n ≤ 1000000)
theorem cap_line {n : Nat} (h : capOk n = true) : n ≤ sizeLine := Nat.le_trans (of_decide_eq_true h) (by decide)
theorem cap_lt {n : Nat} (h : capOk n = true) : n < sizeLine := Nat.lt_of_le_of_lt (of_decide_eq_true h) (by decide)
def cap {α : Type} (xs : List α) : Option (List α) := if capOk xs.length then some xs else none
theorem cap_some {α : Type} {xs ys : List α} (h : cap xs = some ys) : xs = ys ∧ capOk xs.length = true := by
  unfold cap at h
  split at h
  · rename_i hc
    cases h
    exact ⟨rfl, hc⟩
  · cases h
def ocat {α : Type} (x y : Option (List α)) : Option (List α) := bind2 x y fun a b => cap (a ++ b)
theorem ep_cat {α : Type} [Rep α] {oa ob : Option (List α)} (ha : Lp X ρ a oa) (hb : Lp X ρ b ob) : EpF X ρ (.BinOp a .Add b pos) (ocat oa ob) := .mk fun z hz We B σ W Q S k => by
  obtain ⟨x, y, hx, hy, hf⟩ := bind2_some hz
  obtain ⟨rfl, hc⟩ := cap_some hf
  refine useE (pe_op op_cat pe_run pe_run) (ha.run x hx We B σ W _ S fun p vs W1 l1 hp r1 => hb.run y hy We B σ W1 _ (S.mono l1) fun q us W2 l2 hq r2 => ?_)
  have r1' := pmono (fun _ _ h => Rep.mono l2.s h) r1
  refine ⟨p, q, vs, us, rfl, rfl, l2.h _ _ hp rfl, hq, ?_, fun n hn => ?_⟩
  · rw [plen r1, plen r2, ← List.length_append]
    exact cap_line hc
  · have l3 := Wd.Le.new W2 (.lst (vs ++ us)) hn
    exact k n (vs ++ us) (W2.new n (.lst (vs ++ us)) hn) ((l1.trans l2).trans l3) ((l1.trans l2).h.back (fre_of hn)) upd_same (pmono (fun _ _ h => Rep.mono l3.s h) (papp r1' r2))
/-- displays: items of one kind -/
abbrev RunA (X : Cx) (es : List Expr) : TA := fun σ H Q => ∀ (pos : Pos) (pins : List (Addr × Obj)) (s : Shared), Inv X pins σ H s → wpAny (model X.prog X.w) X.A (spliced (backTo pos (starEach es X.env))) (AP X pins σ Q) X.xe s
theorem pa_run {es : List Expr} : PA X es (RunA X es) := ⟨fun pos pins s _ _ _ I h => h pos pins s I⟩
theorem useA {es : List Expr} {t : TA} {σ : L2.St} {H : Hp} {Q : List V → Hp → Prop} (p : PA X es t) (h : t σ H Q) : RunA X es σ H Q := fun pos pins s I => p.run pos pins s σ H Q I h
structure Al (X : Cx) (ρ : List SV) (es : List Expr) {α : Type} [Rep α] (o : Option (List α)) : Prop where
  run : ∀ a, o = some a → a.length = es.length ∧ ∀ (We : Wd) (B : Hp) (σ : L2.St) (W : Wd) (Q : List V → Hp → Prop), SR X.K We B ρ σ W → (∀ vs W', W.Le W' → Paired (fun v x => rel X.K W'.s v x) vs a → Q vs W'.h) → RunA X es σ W.h Q
theorem al_nil {α : Type} [Rep α] : Al X ρ [] (some ([] : List α)) := .mk fun z hz => by
  cases hz
  exact ⟨rfl, fun We B σ W Q S k => useA pa_nil (k [] W (.refl W) .nil)⟩
def ocons {α : Type} (x : Option α) (y : Option (List α)) : Option (List α) := bind2 x y fun a b => some (a :: b)
theorem al_cons {α : Type} [Rep α] {oa : Option α} {os : Option (List α)} {es : List Expr} (ha : Ep X ρ a oa) (hs : Al X ρ es os) (hst : NS X a := by intro _; rfl) : Al X ρ (a :: es) (ocons oa os) := .mk fun z hz => by
  obtain ⟨x, y, hx, hy, hf⟩ := bind2_some hz
  cases hf
  refine ⟨congrArg Nat.succ (hs.run y hy).1, fun We B σ W Q S k => useA (pa_cons pe_run pa_run (hst _)) (ha.run x hx We B σ W _ S fun v W1 l1 r1 => (hs.run y hy).2 We B σ W1 _ (S.mono l1) fun us W2 l2 r2 => ?_)⟩
  exact k (v :: us) W2 (l1.trans l2) (.cons (Rep.mono l2.s r1) r2)
theorem ep_lst {α : Type} [Rep α] {es : List Expr} {o : Option (List α)} (h : Al X ρ es o) (hl : Nat.ble es.length 1000 = true := by rfl) : EpF X ρ (.List es pos) o := .mk fun z hz We B σ W Q S k => by
  obtain ⟨h1, h2⟩ := h.run z hz
  refine useE (pe_lst pa_run) (h2 We B σ W _ S fun vs W1 l1 r1 => ⟨?_, fun p hp => ?_⟩)
  · rw [plen r1, h1]
    exact Nat.le_trans (Nat.le_of_ble_eq_true hl) (by decide)
  · have l2 := Wd.Le.new W1 (.lst vs) hp
    exact k p vs (W1.new p (.lst vs) hp) (l1.trans l2) (l1.h.back (fre_of hp)) upd_same (pmono (fun _ _ h => Rep.mono l2.s h) r1)
/-- slices of lists -/
def cutL {α : Type} (xs : List α) (lo hi : Option Int) : List α := (xs.drop (HT.sIx xs.length 0 lo)).take (HT.sIx xs.length xs.length hi - HT.sIx xs.length 0 lo)
structure Pp (X : Cx) (ρ : List SV) (e : Option Expr) (o : Option (Option Int)) : Prop where
  ex : ∃ t, PO X e t ∧ ∀ a, o = some a → ∀ (We : Wd) (B : Hp) (σ : L2.St) (W : Wd) (Q : Option Int → Hp → Prop), SR X.K We B ρ σ W → (∀ W', W.Le W' → Q a W'.h) → t σ W.h Q
theorem pp_none : Pp X ρ none (some none) := .mk ⟨_, po_none, fun z hz We B σ W Q S k => by
  cases hz
  exact k W (.refl W)⟩
def osome (x : Option Int) : Option (Option Int) := x.bind fun i => some (some i)
theorem pp_some {o : Option Int} (h : Ep X ρ e o) : Pp X ρ (some e) (osome o) := .mk ⟨_, po_some pe_run, fun z hz We B σ W Q S k => by
  obtain ⟨x, hx, hf⟩ := bind_some hz
  cases hf
  exact h.run x hx We B σ W _ S fun v W1 l1 r1 => ⟨x, r1, k W1 l1⟩⟩
theorem pcut {α β : Type} {F : α → β → Prop} {l₁ : List α} {l₂ : List β} (h : Paired F l₁ l₂) (lo hi : Option Int) : Paired F (cutL l₁ lo hi) (cutL l₂ lo hi) := by
  unfold cutL
  rw [plen h]
  exact ptake _ (pdrop _ h)
def ocut {α : Type} (x : Option (List α)) (lo hi : Option (Option Int)) : Option (List α) := x.bind fun xs => lo.bind fun i => hi.bind fun j => some (cutL xs i j)
theorem ep_cut {α : Type} [Rep α] {oa : Option (List α)} {lo hi : Option Expr} {ol oh : Option (Option Int)} {p2 : Pos} (ha : Lp X ρ a oa) (hl : Pp X ρ lo ol) (hh : Pp X ρ hi oh) : EpF X ρ (.Subscript a (.Slice lo hi none p2) pos) (ocut oa ol oh) := .mk fun z hz We B σ W Q S k => by
  obtain ⟨x, hx, hf⟩ := bind_some hz
  obtain ⟨i, hi', hf⟩ := bind_some hf
  obtain ⟨j, hj, hf⟩ := bind_some hf
  cases hf
  obtain ⟨tl, pl, kl⟩ := hl.ex
  obtain ⟨th, ph, kh⟩ := hh.ex
  refine useE (pe_slice sl_list pe_run pl ph) (ha.run x hx We B σ W _ S fun p vs W1 l1 hp r1 => ?_)
  refine kl i hi' We B σ W1 _ (S.mono l1) fun W2 l2 => kh j hj We B σ W2 _ (S.mono (l1.trans l2)) fun W3 l3 => ?_
  refine ⟨p, vs, rfl, .of (l3.h _ _ (l2.h _ _ hp rfl) rfl), fun n hn => ?_⟩
  have l123 := (l1.trans l2).trans l3
  have l4 := Wd.Le.new W3 (.lst (cutV vs i j)) hn
  exact k n (cutV vs i j) (W3.new n (.lst (cutV vs i j)) hn) (l123.trans l4) (l123.h.back (fre_of hn)) upd_same (pmono (fun _ _ h => Rep.mono ((l2.trans l3).trans l4).s h) (pcut r1 i j))
end
end T
/-! typed layer, third part: blocks, loops, calls -/
namespace T
variable [Tb]
open PySem PySem.Spec PyProof.Rows L2
open Evl (Ex)
open Rep (rel)

/-- how a block ends -/
inductive Out (β γ : Type) where
  | ret (b : β)
  | go (g : γ)
  | cnt (g : γ)
  | exc (c : Nat)
def Acc (K : PySem.W.Frag) (xx : Nat → Hp → Prop) (We : Wd) (B : Hp) (fr : Bool) (D : Ends) {β γ : Type} [Rep β] (post : γ → List SV) : Out β γ → Prop
  | .ret b => ∀ v W', We.Le W' → Ex B W'.s → rel K W'.s v b → (fr = true → ∃ p, v = .ref p ∧ fre We.h p) → D.rt v W'.h
  | .go g => ∀ σ' W', SR K We B (post g) σ' W' → D.nx σ' W'.h
  | .cnt g => ∀ σ' W', SR K We B (post g) σ' W' → D.ct σ' W'.h
  | .exc c => ∀ W', We.Le W' → xx c W'.h
structure Bs (X : Cx) (xx : Nat → Hp → Prop) (ρ : List SV) (st : List Stmt) {β γ : Type} [Rep β] (fr : Bool) (m : Option (Out β γ)) (post : γ → List SV) : Prop where
  run : ∀ out, m = some out → ∀ (We : Wd) (B : Hp) (σ : L2.St) (W : Wd) (D : Ends), SR X.K We B ρ σ W → Acc X.K xx We B fr D post out → RunSs X st D σ W.h
section
variable {X : Cx} {ρ : List SV} {pos : Pos} {e a b c d : Expr} {rest st : List Stmt} {xx : Nat → Hp → Prop} {β γ : Type} [Rep β] {fr : Bool} {post : γ → List SV}

theorem bs_go {g : γ} (h : Wk ρ (post g)) : Bs X xx ρ [] (β := β) fr (some (.go g)) post := .mk fun out ho We B σ W D S k => by
  cases ho
  exact useSs pss_nil (k σ W (S.wk h))
theorem bs_cnt {g : γ} (h : Wk ρ (post g)) : Bs X xx ρ (.Continue pos :: rest) (β := β) fr (some (.cnt g)) post := .mk fun out ho We B σ W D S k => by
  cases ho
  exact useSs (pss_cons ps_continue pss_run) (k σ W (S.wk h))
theorem bs_pass {m : Option (Out β γ)} (h : Bs X xx ρ rest fr m post) : Bs X xx ρ (.Pass pos :: rest) fr m post := .mk fun out ho We B σ W D S k =>
  useSs (pss_cons ps_pass pss_run) (h.run out ho We B σ W D S k)
def oret {α γ : Type} (o : Option α) : Option (Out α γ) := o.bind fun x => some (.ret x)
theorem bs_ret {o : Option β} (h : Ep X ρ e o) : Bs X xx ρ (.Return (some e) pos :: rest) (γ := γ) false (oret o) post := .mk fun out ho We B σ W D S k => by
  obtain ⟨x, hx, hf⟩ := bind_some ho
  cases hf
  exact useSs (pss_cons (ps_ret pe_run) pss_run) (h.run x hx We B σ W _ S fun v W1 l1 r1 => k v W1 (S.le.trans l1) (S.b.trans l1.s) r1 fun z => by cases z)
theorem bs_retF {α : Type} [Rep α] {o : Option (List α)} {post : γ → List SV} (h : EpF X ρ e o) : Bs X xx ρ (.Return (some e) pos :: rest) (γ := γ) fr (oret o) post := .mk fun out ho We B σ W D S k => by
  obtain ⟨x, hx, hf⟩ := bind_some ho
  cases hf
  exact useSs (pss_cons (ps_ret pe_run) pss_run) (h.run x hx We B σ W _ S fun p vs W1 l1 hn hp r1 => k _ W1 (S.le.trans l1) (S.b.trans l1.s) ⟨p, vs, rfl, hp, r1⟩ fun _ => ⟨p, rfl, S.le.h.back hn⟩)
/-- a list that was changed till now is handed back -/
theorem SR.freeze {K : PySem.W.Frag} {We W : Wd} {B : Hp} {ρ : List SV} {σ : L2.St} {α : Type} [Rep α] {i : Nat} {m : ML α} (S : SR K We B ρ σ W) (h : ρ[i]? = some (.mut m)) :
    ∃ l vs W', σ[i]? = some (some (.ref l)) ∧ fre We.h l ∧ W'.h = W.h ∧ W'.s l = some (.lst vs) ∧ Paired (fun v x => rel K W'.s v x) vs m.xs ∧ SR K We B (ρ.set i (.imm m.xs)) σ W' := by
  obtain ⟨l, ob, e1, n1, n2, hh, vs, rfl, r⟩ := S.at_ i _ h
  have ex : Ex W.s (upd W.s l (.lst vs)) := Ex.new n2
  have r' := pmono (fun _ _ h => Rep.mono ex h) r
  refine ⟨l, vs, W.settle l (.lst vs) hh rfl, e1, n1, rfl, upd_same, r', ?_⟩
  · have hi : i < ρ.length := (List.getElem?_eq_some_iff.mp h).1
    refine ⟨⟨S.le.s.trans ex, S.le.h, fun p o h1 hno h2 => ?_⟩, S.b.trans ex, by rw [List.length_set]; exact S.len, fun j y hj => ?_, fun j k y z l' hjk hj hk mj mk ej ek => ?_⟩
    · show upd W.s l (.lst vs) p = none
      rw [upd_ne (fun z => by subst z; exact fre_no n1 h1 hno)]
      exact S.le.f p o h1 hno h2
    · rcases get_set_cases hj with ⟨rfl, rfl, hl⟩ | ⟨hne, h2⟩
      · exact ⟨.ref l, e1, l, vs, rfl, upd_same, r'⟩
      · have s0 := S.at_ j y h2
        match y, s0 with
        | .any, _ => trivial
        | @SV.imm _ ii a, ⟨v, e, rr⟩ => exact ⟨v, e, ii.mono ex rr⟩
        | @SV.mut _ ii a, ⟨l', ob, e, n, s, hh', rr⟩ =>
          refine ⟨l', ob, e, n, ?_, hh', ii.mono ex rr⟩
          show upd W.s l (.lst vs) l' = none
          rw [upd_ne (fun z => ?_)]
          · exact s
          · subst z
            exact S.sep j i _ _ l' hne h2 h trivial trivial e e1
    · rcases get_set_cases hj with ⟨rfl, rfl, hl⟩ | ⟨hne, h2⟩
      · exact mj
      · rcases get_set_cases hk with ⟨rfl, rfl, hl⟩ | ⟨hne', h3⟩
        · exact mk
        · exact S.sep j k y z l' hjk h2 h3 mj mk ej ek
theorem bs_freeze {α : Type} [Rep α] {xs : ML α} {m : Option (Out β γ)} (i : Nat) (h : Bs X xx (ρ.set i (.imm xs.xs)) st fr m post) (hi : ρ[i]? = some (.mut xs) := by rfl) : Bs X xx ρ st fr m post := .mk fun out ho We B σ W D S k => by
  obtain ⟨l, vs, W', e1, n1, eh, _, _, S'⟩ := S.freeze hi
  have z := h.run out ho We B σ W' D S' k
  rw [eh] at z
  exact z
/-- x = e -/
theorem bs_asg {α : Type} [Rep α] {o : Option α} {f : α → Option (Out β γ)} {x : Str} {p1 : Pos} (i : Nat) (nd : X.N.Nodup) (he : Ep X ρ e o) (hr : ∀ a, Bs X xx (ρ.set i (.imm a)) rest fr (f a) post)
    (hi : X.N[i]? = some x := by rfl) (hx : Loc X.env.scope x := by first | exact Or.inl rfl | exact Or.inr rfl) (hs : swapsWith e (some (.Name x p1)) pos.line X.env = pure false := by rfl)
    (hf : X.fn x = true ∨ X.env.scope.names.lookup x = some .local := by first | exact .inl rfl | exact .inr rfl) : Bs X xx ρ (.Assign [.Name x p1] e pos :: rest) fr (o.bind f) post := .mk fun out ho We B σ W D S k => by
  obtain ⟨y, hy, hf'⟩ := bind_some ho
  refine useSs (pss_cons (ps_set nd hi hx pe_run hs hf) pss_run) (he.run y hy We B σ W _ S fun v W1 l1 r1 => ?_)
  exact (hr y).run out hf' We B _ W1 D (S.set l1 r1) k
/-- x = a new list that will be changed -/
theorem SR.newM {K : PySem.W.Frag} {We W W' : Wd} {B : Hp} {ρ : List SV} {σ : L2.St} {α : Type} [Flat α] {i : Nat} {p : Addr} {vs : List V} {xs : List α} (S : SR K We B ρ σ W) (le : W.Le W') (hn : fre W.h p) (hp : W'.s p = some (.lst vs))
    (r : Paired (fun v x => rel K W'.s v x) vs xs) : ∃ W'', W''.h = W'.h ∧ SR K We B (ρ.set i (.mut (ML.mk xs))) (σ.set i (some (.ref p))) W'' := by
  have hs : W.s p = none := W.fs hn
  have s2ne : ∀ {q}, q ≠ p → (W'.unset p).s q = W'.s q := fun {q} h => if_neg h
  have s2p : (W'.unset p).s p = none := if_pos rfl
  have exs : Ex W.s (W'.unset p).s := fun q o h => by
    rw [s2ne (fun z => by subst z; rw [hs] at h; cases h)]
    exact le.s q o h
  have le2 : W.Le (W'.unset p) := ⟨exs, le.h, fun q o h1 n h2 => by
    show (W'.unset p).s q = none
    rw [s2ne (fun z => by subst z; exact fre_no hn h1 n)]
    exact le.f q o h1 n h2⟩
  refine ⟨W'.unset p, rfl, ?_⟩
  have S2 := S.mono le2
  refine ⟨S2.le, S2.b, by rw [List.length_set, List.length_set]; exact S.len, fun j y h => ?_, fun j k y z l hjk hj hk mj mk ej ek => ?_⟩
  · rcases get_set_cases h with ⟨rfl, rfl, hl⟩ | ⟨hne, h2⟩
    · rw [List.getElem?_set_self (by rw [S.len]; exact hl)]
      refine ⟨p, .lst vs, rfl, S.le.h.back hn, s2p, W'.e _ _ hp, vs, rfl, pmono (fun v x h => ?_) r⟩
      refine Flat.minus (fun q ys hq => ?_) h
      show (W'.unset p).s q = _
      rw [s2ne (fun z => by subst z; rw [hp] at hq; cases hq)]
      exact hq
    · rw [List.getElem?_set_ne (fun z => hne z.symm)]
      exact S2.at_ j y h2
  · have fresh : ∀ {j : Nat} {y : SV}, y.isMut → ρ[j]? = some y → σ[j]? = some (some (.ref p)) → False := fun {j y} my hy ey => by
      have s0 := S.at_ j y hy
      match y, my, s0 with
      | @SV.mut _ ii a, _, ⟨l', ob, e, n, s, hh', rr⟩ =>
        rw [ey] at e
        cases e
        exact fre_no hn hh' (tb_of_pl (ii.nt rr))
    rcases get_set_cases hj with ⟨rfl, rfl, hl⟩ | ⟨hne, h2⟩
    · rw [List.getElem?_set_self (by rw [S.len]; exact hl)] at ej
      cases ej
      rcases get_set_cases hk with ⟨rfl, rfl, hl'⟩ | ⟨hne', h3⟩
      · exact hjk rfl
      · rw [List.getElem?_set_ne (fun z => hne' z.symm)] at ek
        exact fresh mk h3 ek
    · rw [List.getElem?_set_ne (fun z => hne z.symm)] at ej
      rcases get_set_cases hk with ⟨rfl, rfl, hl'⟩ | ⟨hne', h3⟩
      · rw [List.getElem?_set_self (by rw [S.len]; exact hl')] at ek
        cases ek
        exact fresh mj h2 ej
      · rw [List.getElem?_set_ne (fun z => hne' z.symm)] at ek
        exact S.sep j k y z l hjk h2 h3 mj mk ej ek
theorem bs_asgM {α : Type} [Flat α] {o : Option (List α)} {f : List α → Option (Out β γ)} {x : Str} {p1 : Pos} (i : Nat) (nd : X.N.Nodup) (he : EpF X ρ e o) (hr : ∀ a, Bs X xx (ρ.set i (.mut (ML.mk a))) rest fr (f a) post)
    (hi : X.N[i]? = some x := by rfl) (hx : Loc X.env.scope x := by first | exact Or.inl rfl | exact Or.inr rfl) (hs : swapsWith e (some (.Name x p1)) pos.line X.env = pure false := by rfl)
    (hf : X.fn x = true ∨ X.env.scope.names.lookup x = some .local := by first | exact .inl rfl | exact .inr rfl) : Bs X xx ρ (.Assign [.Name x p1] e pos :: rest) fr (o.bind f) post := .mk fun out ho We B σ W D S k => by
  obtain ⟨y, hy, hf'⟩ := bind_some ho
  refine useSs (pss_cons (ps_set nd hi hx pe_run hs hf) pss_run) (he.run y hy We B σ W _ S fun p vs W1 l1 hn hp r1 => ?_)
  obtain ⟨W2, e2, S2⟩ := S.newM (i := i) l1 hn hp r1
  have z := (hr y).run out hf' We B _ W2 D S2 k
  rw [e2] at z
  exact z
/-- x.append(e) -/
theorem SR.mutate {K : PySem.W.Frag} {We W : Wd} {B : Hp} {ρ : List SV} {σ : L2.St} {α δ : Type} [MRep α] [MRep δ] {i : Nat} {m : α} {m' : δ} {l : Addr} {ob : HO} (S : SR K We B ρ σ W) (h : ρ[i]? = some (.mut m)) (hl : σ[i]? = some (some (.ref l)))
    (r : MRep.orel K W.s ob m') : ∃ W', W'.h = upd W.h l ob ∧ SR K We B (ρ.set i (.mut m')) σ W' := by
  obtain ⟨l0, ob0, e1, n1, n2, hh, r0⟩ := S.at_ i _ h
  rw [hl] at e1
  cases e1
  have hpl : ∀ o, W.h l = some o → isPl o = true := fun o e => by
    rw [hh] at e
    cases e
    exact MRep.nt r0
  refine ⟨W.upH l ob n2 hpl, rfl, ?_⟩
  · refine ⟨⟨S.le.s, fun q o hq hno => ?_, S.le.f⟩, S.b, by rw [List.length_set]; exact S.len, fun j y hj => ?_, fun j k y z l' hjk hj hk mj mk ej ek => ?_⟩
    · show upd W.h l ob q = some o
      rw [upd_ne (fun z => by subst z; exact fre_no n1 hq hno)]
      exact S.le.h q o hq hno
    · rcases get_set_cases hj with ⟨rfl, rfl, hlt⟩ | ⟨hne, h2⟩
      · exact ⟨l, ob, hl, n1, n2, upd_same, r⟩
      · have s0 := S.at_ j y h2
        match y, s0 with
        | .any, _ => trivial
        | @SV.imm _ ii a, ⟨v, e, rr⟩ => exact ⟨v, e, rr⟩
        | @SV.mut _ ii a, ⟨l', ob', e, n, s, hh', rr⟩ =>
          refine ⟨l', ob', e, n, s, ?_, rr⟩
          show upd W.h l ob l' = some ob'
          rw [upd_ne (fun z => ?_)]
          · exact hh'
          · subst z
            exact S.sep j i _ _ l' hne h2 h trivial trivial e hl
    · have key : ∀ {j : Nat} {y : SV}, (ρ.set i (.mut m'))[j]? = some y → y.isMut → ∃ y', ρ[j]? = some y' ∧ y'.isMut := fun {j y} hj mj => by
        rcases get_set_cases hj with ⟨rfl, rfl, hlt⟩ | ⟨hne, h2⟩
        · exact ⟨_, h, trivial⟩
        · exact ⟨y, h2, mj⟩
      obtain ⟨y', hy', my'⟩ := key hj mj
      obtain ⟨z', hz', mz'⟩ := key hk mk
      exact S.sep j k y' z' l' hjk hy' hz' my' mz' ej ek
def oapp {α : Type} (xs : List α) (o : Option α) : Option (List α) := o.bind fun x => if capOk xs.length then some (xs ++ [x]) else none
theorem bs_app {α : Type} [Rep α] {xs : ML α} {o : Option α} {f : List α → Option (Out β γ)} {x : Str} {p0 p1 p2 : Pos} (i : Nat) (he : Ep X ρ e o) (hr : ∀ a, Bs X xx (ρ.set i (.mut (ML.mk a))) rest fr (f a) post) (hρ : ρ[i]? = some (.mut xs) := by rfl)
    (hN : X.N[i]? = some x := by rfl) (hv : Vis X.env.scope x := by first | exact Or.inl rfl | exact Or.inr (Or.inl rfl) | exact Or.inr (Or.inr rfl)) (hd : (x == ("__debug__" : Str)) = false := by decide)
    (hcd : (x == ("__classdict__" : Str)) = false := by decide) (hbase : attributeBase (.Name x p0) "append" X.env (eval (.Name x p0) X.env) = eval (.Name x p0) X.env := by rfl)
    (hfew : ((backTo p2 (starEach [e] X.env)).all (fun x => !x.1) && (backToKw p2 (keywordEach [] X.env)).all (fun x => x.1.isSome)
      && decide ([e].length + ([] : List Keyword).length + (if ([] : List Keyword).isEmpty then 0 else 1) < 30)) = true := by rfl)
    (hline : (p1.endLine == p2.line) = true := by rfl) (hst : NS X e := by intro _; rfl)
    (hs : swapsWith (.Call (.Attribute (.Name x p0) "append" p1) [e] [] p2) none pos.line X.env = pure false := by rfl) :
    Bs X xx ρ (.Expr (.Call (.Attribute (.Name x p0) "append" p1) [e] [] p2) pos :: rest) fr ((oapp xs.xs o).bind f) post := .mk fun out ho We B σ W D S k => by
  obtain ⟨y, hy, hf'⟩ := bind_some ho
  obtain ⟨z, hz, hy⟩ := bind_some hy
  split at hy
  · rename_i hc
    cases hy
    obtain ⟨l, ob, e1, n1, n2, hh, vs, rfl, r⟩ := S.at_ i _ hρ
    refine useSs (pss_cons (ps_expr (pe_bm PySem.F.plainAttrs_list PySem.F.slot_list_append PySem.F.type_list_append mt_append (pe_var hN hv hd hcd) (pa_cons pe_run pa_nil (hst _)) hbase hfew hline (hst _)) hs) pss_run) ?_
    refine ⟨_, e1, .inl ⟨rfl, _, .of hh⟩, he.run z hz We B σ W _ S fun v W1 l1 r1 => ?_⟩
    refine ⟨l, vs, v, rfl, rfl, l1.h _ _ hh rfl, ?_, ?_⟩
    · rw [plen r]
      exact cap_lt hc
    · have S1 := S.mono l1
      have r' := pmono (fun _ _ h => Rep.mono l1.s h) r
      obtain ⟨W2, e2, S2⟩ := S1.mutate (δ := ML α) (m' := ML.mk (xs.xs ++ [z])) (ob := .lst (vs ++ [v])) hρ e1 (show MRep.orel X.K W1.s _ (ML.mk (xs.xs ++ [z])) from ⟨_, rfl, papp r' (.cons r1 .nil)⟩)
      have q := (hr _).run out hf' We B _ W2 D S2 k
      rw [e2] at q
      exact q
  · cases hy
/-! if -/
def noGo {β γ : Type} : Option (Out β γ) → Option (Out β γ)
  | some (.ret b) => some (.ret b)
  | some (.cnt g) => some (.cnt g)
  | some (.exc c) => some (.exc c)
  | _ => none
def oite {α : Type} (c : Option Bool) (x y : Option α) : Option α := c.bind fun b => if b then x else y
theorem bs_ifR {oc : Option Bool} {mA m : Option (Out β γ)} (hc : Tp X ρ c oc) (hA : Bs X xx ρ st fr mA post) (hr : Bs X xx ρ rest fr m post) : Bs X xx ρ (.If c st [] pos :: rest) fr (oite oc (noGo mA) m) post := .mk fun out ho We B σ W D S k => by
  obtain ⟨x, hx, hf⟩ := bind_some ho
  refine useSs (pss_cons (ps_if pt_run pss_run pss_nil) pss_run) (hc.run x hx We B σ W _ S fun W1 l1 => ?_)
  have S1 := S.mono l1
  cases x with
  | false => exact iteF (hr.run out hf We B σ W1 D S1 k)
  | true =>
    refine iteT ?_
    have hf : noGo mA = some out := hf
    cases mA with
    | none => cases hf
    | some o1 =>
      cases o1 with
      | go g => cases hf
      | ret b =>
        cases hf
        exact hA.run _ rfl We B σ W1 _ S1 k
      | cnt g =>
        cases hf
        exact hA.run _ rfl We B σ W1 _ S1 k
      | exc c =>
        cases hf
        exact hA.run _ rfl We B σ W1 _ S1 k
def thenO {β γ γ' : Type} (m : Option (Out β γ)) (k : γ → Option (Out β γ')) : Option (Out β γ') := m.bind fun o => match o with
  | .ret b => some (.ret b)
  | .go g => k g
  | .cnt _ => none
  | .exc c => some (.exc c)
theorem bs_ifG {γ1 : Type} {post1 : γ1 → List SV} {oc : Option Bool} {mA mB : Option (Out β γ1)} {m : γ1 → Option (Out β γ)} {st' : List Stmt} (hc : Tp X ρ c oc) (hA : Bs X xx ρ st fr mA post1) (hB : Bs X xx ρ st' fr mB post1) (hr : ∀ g, Bs X xx (post1 g) rest fr (m g) post) :
    Bs X xx ρ (.If c st st' pos :: rest) fr (thenO (oite oc mA mB) m) post := .mk fun out ho We B σ W D S k => by
  obtain ⟨o1, h1, hf⟩ := bind_some ho
  obtain ⟨x, hx, h1⟩ := bind_some h1
  refine useSs (pss_cons (ps_if pt_run pss_run pss_run) pss_run) (hc.run x hx We B σ W _ S fun W1 l1 => ?_)
  have S1 := S.mono l1
  have acc : Acc X.K xx We B fr { D with nx := RunSs X rest D } post1 o1 := by
    cases o1 with
    | ret b =>
      cases hf
      exact k
    | go g => exact fun σ' W' S' => (hr g).run out hf We B σ' W' D S' k
    | cnt g => cases hf
    | exc c =>
      cases hf
      exact k
  cases x with
  | false => exact iteF (hB.run o1 h1 We B σ W1 _ S1 acc)
  | true => exact iteT (hA.run o1 h1 We B σ W1 _ S1 acc)
/-! targets -/
/-- what storing a value through g does to the slots -/
structure TgR (K : PySem.W.Frag) (g : TG) {α : Type} [Rep α] (js : List Nat) (up : α → List SV → List SV) : Prop where
  run : ∀ (a : α) (We : Wd) (B : Hp) (ρ : List SV) (σ : L2.St) (W : Wd) (v : V) (Q : L2.St → Hp → Prop), SR K We B ρ σ W → rel K W.s v a → (∀ σ', SR K We B (up a ρ) σ' W → (∀ vs : List Nat, (∀ j ∈ js, j ∈ vs) → wipe σ' vs = wipe σ vs) → Q σ' W.h) → g v σ W.h Q
theorem wipe_get {σ : L2.St} : ∀ (vs : List Nat) (i : Nat), (wipe σ vs)[i]? = if i ∈ vs then (if i < σ.length then some none else none) else σ[i]?
  | [], i => by simp [wipe]
  | v :: vs, i => by
    show ((wipe σ vs).set v none)[i]? = _
    by_cases h : v = i
    · subst h
      rw [if_pos (List.mem_cons_self ..), List.getElem?_set]
      rw [if_pos rfl, wipe_length]
    · rw [List.getElem?_set_ne h, wipe_get vs i]
      by_cases hm : i ∈ vs
      · rw [if_pos hm, if_pos (List.mem_cons_of_mem _ hm)]
      · rw [if_neg hm, if_neg (fun z => (List.mem_cons.mp z).elim (fun q => h q.symm) hm)]
theorem wipe_set {σ : L2.St} {vs : List Nat} {j : Nat} {o : Option V} (h : j ∈ vs) : wipe (σ.set j o) vs = wipe σ vs := by
  apply List.ext_getElem?
  intro i
  rw [wipe_get, wipe_get, List.length_set]
  by_cases hi : i ∈ vs
  · rw [if_pos hi, if_pos hi]
  · rw [if_neg hi, if_neg hi, List.getElem?_set_ne (fun z => hi (by rw [← z]; exact h))]
theorem tg_name {K : PySem.W.Frag} {α : Type} [Rep α] (j : Nat) : TgR K (gName j) (α := α) [j] (fun a ρ => ρ.set j (.imm a)) := .mk fun a We B ρ σ W v Q S r k =>
  k _ (S.set (.refl W) r) fun vs h => wipe_set (h j (List.mem_cons_self ..))
theorem tg_pair {K : PySem.W.Frag} {α β : Type} [Rep α] [Rep β] (i j : Nat) : TgR K (gTup K 2 (gCons (gName i) (gCons (gName j) gNil))) (α := α × β) [i, j] (fun a ρ => (ρ.set i (.imm a.1)).set j (.imm a.2)) := .mk fun a We B ρ σ W v Q S ⟨p, x, y, e1, e2, r1, r2⟩ k => by
  refine ⟨p, [x, y], e1, .of (W.e _ _ e2), rfl, x, [y], rfl, y, [], rfl, rfl, ?_⟩
  refine k _ ((S.set (.refl W) r1).set (.refl W) r2) fun vs h => ?_
  rw [wipe_set (h j (by simp)), wipe_set (h i (by simp))]
theorem tg_tri {K : PySem.W.Frag} (i j l : Nat) : TgR K (gTup K 3 (gCons (gName i) (gCons (gName j) (gCons (gName l) gNil)))) (α := Tri) [i, j, l] (fun a ρ => ((ρ.set i (.imm a.a)).set j (.imm a.b)).set l (.imm a.c)) := .mk fun a We B ρ σ W v Q S ⟨p, e1, e2⟩ k => by
  refine ⟨p, _, e1, .of (W.e _ _ e2), rfl, _, _, rfl, _, _, rfl, _, [], rfl, rfl, ?_⟩
  refine k _ (((S.set (.refl W) rfl).set (.refl W) rfl).set (.refl W) rfl) fun vs h => ?_
  rw [wipe_set (h l (by simp)), wipe_set (h j (by simp)), wipe_set (h i (by simp))]
/-- target = e -/
theorem bs_unp {α : Type} [Rep α] {tg : Expr} {g : TG} {js : List Nat} {up : α → List SV → List SV} {o : Option α} {f : α → Option (Out β γ)} (hg : PG X tg g) (ht : TgR X.K g js up) (he : Ep X ρ e o) (hr : ∀ a, Bs X xx (up a ρ) rest fr (f a) post)
    (hs : swapsWithSole [tg] e pos.line X.env = pure false := by rfl) (hw : swappedStores [tg] e X.env = pure none := by rfl) (h1 : (assignEach [tg] X.env).map (·.2) = [assign tg X.env] := by rfl) : Bs X xx ρ (.Assign [tg] e pos :: rest) fr (o.bind f) post := .mk fun out ho We B σ W D S k => by
  obtain ⟨y, hy, hf'⟩ := bind_some ho
  refine useSs (pss_cons (ps_asg pe_run hg hs hw h1) pss_run) (he.run y hy We B σ W _ S fun v W1 l1 r1 => ?_)
  exact ht.run y We B ρ σ W1 v _ (S.mono l1) r1 fun σ' S' _ => (hr y).run out hf' We B σ' W1 D S' k
/-! for -/
def loopL {α β γ : Type} (f : α → γ → Option (Out β γ)) : List α → γ → Option (Out β γ)
  | [], g => some (.go g)
  | x :: r, g => (f x g).bind fun o => match o with
    | .ret b => some (.ret b)
    | .go g' => loopL f r g'
    | .cnt g' => loopL f r g'
    | .exc c => some (.exc c)
theorem drop_get {α : Type} {xs : List α} {i : Nat} {x : α} (h : xs[i]? = some x) : xs.drop i = x :: xs.drop (i + 1) := by
  obtain ⟨hi, rfl⟩ := List.getElem?_eq_some_iff.mp h
  exact List.drop_eq_getElem_cons hi
theorem pget' {α β : Type} {F : α → β → Prop} : ∀ {l₁ : List α} {l₂ : List β} {j : Nat} {x : α}, Paired F l₁ l₂ → l₁[j]? = some x → ∃ y, l₂[j]? = some y ∧ F x y
  | _, _, j, y, .nil, h => by simp at h
  | _, _, 0, y, .cons r t, h => by
    simp at h
    subst h
    exact ⟨_, rfl, r⟩
  | _, _, j + 1, y, .cons r t, h => by
    obtain ⟨x, h1, h2⟩ := pget' (j := j) (x := y) t (by simpa using h)
    exact ⟨x, by simpa using h1, h2⟩
/-- for target in a settled list -/
theorem bs_for {α γ1 : Type} [Rep α] {tg iter : Expr} {body : List Stmt} {g : TG} {js : List Nat} {up : α → List SV → List SV} {o : Option (List α)} {f : α → γ1 → Option (Out β γ1)} {m : γ1 → Option (Out β γ)} (P : γ1 → List SV) (g0 : γ1)
    (hg : PG X tg g) (ht : TgR X.K g js up) (hi : Ep X ρ iter o) (h0 : Wk ρ (P g0)) (hb : ∀ x g, Bs X xx (up x (P g)) body fr (f x g) P) (hr : ∀ g, Bs X xx (P g) rest fr (m g) post)
    (hp : PassesOwn (model X.prog X.w) X.A X.env X.xe) (hc : X.calm = true) (hs : ∀ x, foldedSetIterable iter X.env x = pure x := by intro _; rfl) :
    Bs X xx ρ (.For tg iter body [] pos :: rest) fr (o.bind fun xs => thenO (loopL f xs g0) m) post := .mk fun out ho We B σ W D S k => by
  obtain ⟨xs, hxs, ho⟩ := bind_some ho
  obtain ⟨o1, h1, hf⟩ := bind_some ho
  refine useSs (pss_cons (ps_for hp hc (pi_list pe_run) hg pss_run hs) pss_run) (hi.run xs hxs We B σ W _ S fun v W1 l1 ⟨p, vs, e1, hp1, r1⟩ => ?_)
  subst e1
  refine ⟨p, rfl, ⟨vs, .of (W1.e _ _ hp1)⟩, for_list (xs := vs) (fun i σ' H' => ∃ g' W', H' = W'.h ∧ SR X.K We W1.s (P g') σ' W' ∧ loopL f (xs.drop i) g' = some o1) ?_ ?_ ?_ ?_⟩
  · exact ⟨g0, W1, rfl, ((S.mono l1).rebase (Ex.refl _)).wk h0, h1⟩
  · rintro i σ' H' _ ⟨g', W', rfl, S', _⟩
    exact .of (W'.e _ _ (S'.b _ _ hp1))
  · rintro i v σ' H' hv ⟨g', W', rfl, S', hl⟩
    obtain ⟨x, hx, rx⟩ := pget' r1 hv
    rw [drop_get hx] at hl
    obtain ⟨o2, h2, hl⟩ := bind_some hl
    refine ht.run x We W1.s _ σ' W' v _ S' (Rep.mono S'.b rx) fun σ2 S2 _ => ?_
    refine (hb x g').run o2 h2 We W1.s σ2 W' _ S2 ?_
    cases o2 with
    | ret b =>
      cases hl
      cases hf
      exact fun v' W2 l2 b2 r2 q2 => k v' W2 l2 (((S.b.trans l1.s)).trans b2) r2 q2
    | go g2 => exact fun σ3 W3 S3 => ⟨g2, W3, rfl, S3, hl⟩
    | cnt g2 => exact fun σ3 W3 S3 => ⟨g2, W3, rfl, S3, hl⟩
    | exc c =>
      cases hl
      cases hf
      exact k
  · rintro σ' H' ⟨g', W', rfl, S', hl⟩
    rw [plen r1, List.drop_length] at hl
    cases hl
    exact (hr g').run out hf We B σ' W' D (S'.rebase (((S.b.trans l1.s)).trans S'.b)) k
/-- for k in range(n) -/
def rngL (n : Int) : List Int := (List.range n.toNat).map fun (i : Nat) => (i : Int)
def rngOk (n : Int) : Bool := decide (-1000000 ≤ n) && decide (n ≤ 1000000)
def orng (n : Option Int) : Option (List Int) := n.bind fun k => if rngOk k then some (rngL k) else none
theorem rngL_get {n : Int} {i : Nat} (h : i < n.toNat) : (rngL n)[i]? = some (i : Int) := by
  unfold rngL
  rw [List.getElem?_map, List.getElem?_range h]
  rfl
theorem rngL_len (n : Int) : (rngL n).length = n.toNat := by
  unfold rngL
  rw [List.length_map, List.length_range]
theorem bs_forR {γ1 : Type} {tg n : Expr} {body : List Stmt} {p1 p2 : Pos} {g : TG} {js : List Nat} {up : Int → List SV → List SV} {o : Option Int} {f : Int → γ1 → Option (Out β γ1)} {m : γ1 → Option (Out β γ)} (P : γ1 → List SV) (g0 : γ1)
    (hgl : Gl X "range") (hm : X.mg "range" = none) (hg : PG X tg g) (ht : TgR X.K g js up) (hi : Ep X ρ n o) (h0 : Wk ρ (P g0)) (hb : ∀ x g, Bs X xx (up x (P g)) body fr (f x g) P) (hr : ∀ g, Bs X xx (P g) rest fr (m g) post)
    (hp : PassesOwn (model X.prog X.w) X.A X.env X.xe) (hc : X.calm = true) (hst : NS X n := by intro _; rfl)
    (hs : ∀ x, foldedSetIterable (.Call (.Name "range" p1) [n] [] p2) X.env x = pure x := by intro _; rfl) :
    Bs X xx ρ (.For tg (.Call (.Name "range" p1) [n] [] p2) body [] pos :: rest) fr ((orng o).bind fun xs => thenO (loopL f xs g0) m) post := .mk fun out ho We B σ W D S k => by
  obtain ⟨xs, hxs, ho⟩ := bind_some ho
  obtain ⟨o1, h1, hf⟩ := bind_some ho
  obtain ⟨z, hz, hxs⟩ := bind_some hxs
  split at hxs
  · rename_i hok
    cases hxs
    unfold rngOk at hok
    simp only [Bool.and_eq_true, decide_eq_true_eq] at hok
    refine useSs (pss_cons (ps_for hp hc (pi_range1 hgl hm (pa_cons pe_run pa_nil (hst _)) (by rw [hst]; rfl)) hg pss_run hs) pss_run) (hi.run z hz We B σ W _ S fun v W1 l1 r1 => ?_)
    cases r1
    refine ⟨z, rfl, by omega, by omega, for_range (lo := 0) (n := z.toNat) (fun i σ' H' => ∃ g' W', H' = W'.h ∧ SR X.K We W1.s (P g') σ' W' ∧ loopL f ((rngL z).drop i) g' = some o1) ?_ ?_ ?_⟩
    · exact ⟨g0, W1, rfl, ((S.mono l1).rebase (Ex.refl _)).wk h0, h1⟩
    · rintro i σ' H' hi' ⟨g', W', rfl, S', hl⟩
      rw [drop_get (rngL_get hi')] at hl
      obtain ⟨o2, h2, hl⟩ := bind_some hl
      refine ht.run (i : Int) We W1.s _ σ' W' _ _ S' (show V.int (0 + (i : Int)) = V.int i by rw [Int.zero_add]) fun σ2 S2 _ => ?_
      refine (hb (i : Int) g').run o2 h2 We W1.s σ2 W' _ S2 ?_
      cases o2 with
      | ret b =>
        cases hl
        cases hf
        exact fun v' W2 l2 b2 r2 q2 => k v' W2 l2 (((S.b.trans l1.s)).trans b2) r2 q2
      | go g2 => exact fun σ3 W3 S3 => ⟨g2, W3, rfl, S3, hl⟩
      | cnt g2 => exact fun σ3 W3 S3 => ⟨g2, W3, rfl, S3, hl⟩
      | exc c =>
        cases hl
        cases hf
        exact k
    · rintro σ' H' ⟨g', W', rfl, S', hl⟩
      rw [← rngL_len, List.drop_length] at hl
      cases hl
      exact (hr g').run out hf We B σ' W' D (S'.rebase (((S.b.trans l1.s)).trans S'.b)) k
  · cases hxs
/-! while -/
def loopN {β γ : Type} (c : γ → Option Bool) (f : γ → Option (Out β γ)) : Nat → γ → Option (Out β γ)
  | 0, _ => none
  | n + 1, g => (c g).bind fun b => if b then (f g).bind fun o => match o with
      | .ret b => some (.ret b)
      | .go g' => loopN c f n g'
      | .cnt g' => loopN c f n g'
      | .exc c => some (.exc c)
    else some (.go g)
theorem loopN_mono {β γ : Type} {c : γ → Option Bool} {f : γ → Option (Out β γ)} : ∀ {n : Nat} {g : γ} {o : Out β γ}, loopN c f n g = some o → loopN c f (n + 1) g = some o
  | 0, _, _, h => by cases h
  | n + 1, g, o, h => by
    obtain ⟨b, hb, h⟩ := bind_some h
    show (c g).bind _ = _
    rw [hb]
    show (if b = true then _ else _) = _
    cases b with
    | false => exact h
    | true =>
      rw [if_pos rfl] at h ⊢
      obtain ⟨o1, h1, h⟩ := bind_some h
      rw [h1]
      cases o1 with
      | ret b => exact h
      | go g' => exact loopN_mono (n := n) h
      | cnt g' => exact loopN_mono (n := n) h
      | exc c => exact h
theorem loopN_le {β γ : Type} {c : γ → Option Bool} {f : γ → Option (Out β γ)} {n k : Nat} {g : γ} {o : Out β γ} (h : loopN c f n g = some o) : loopN c f (n + k) g = some o := by
  induction k with
  | zero => exact h
  | succ k ih => exact loopN_mono ih
open Classical in
noncomputable def loopW {β γ : Type} (c : γ → Option Bool) (f : γ → Option (Out β γ)) (g : γ) : Option (Out β γ) :=
  if h : ∃ n o, loopN c f n g = some o then loopN c f h.choose g else none
theorem loopW_some {β γ : Type} {c : γ → Option Bool} {f : γ → Option (Out β γ)} {g : γ} {o : Out β γ} : loopW c f g = some o ↔ ∃ n, loopN c f n g = some o := by
  constructor
  · intro h
    unfold loopW at h
    split at h
    · exact ⟨_, h⟩
    · cases h
  · rintro ⟨n, h⟩
    have hex : ∃ n o, loopN c f n g = some o := ⟨n, o, h⟩
    unfold loopW
    rw [dif_pos hex]
    obtain ⟨o', h'⟩ := hex.choose_spec
    have e1 := loopN_le (k := n) h'
    have e2 := loopN_le (k := hex.choose) h
    rw [Nat.add_comm] at e2
    rw [e1] at e2
    rw [h', Option.some.inj e2]
/-- one turn -/
theorem loopW_eq {β γ : Type} (c : γ → Option Bool) (f : γ → Option (Out β γ)) (g : γ) : loopW c f g = (c g).bind fun b => if b then (f g).bind fun o => match o with
      | .ret b => some (.ret b)
      | .go g' => loopW c f g'
      | .cnt g' => loopW c f g'
      | .exc c => some (.exc c)
    else some (.go g) := by
  have key : ∀ o, loopW c f g = some o ↔ ((c g).bind fun b => if b then (f g).bind fun o => match o with
      | .ret b => some (.ret b)
      | .go g' => loopW c f g'
      | .cnt g' => loopW c f g'
      | .exc c => some (.exc c)
    else some (.go g)) = some o := by
    intro o
    rw [loopW_some]
    constructor
    · rintro ⟨n, h⟩
      cases n with
      | zero => cases h
      | succ n =>
        obtain ⟨b, hb, h⟩ := bind_some h
        rw [hb]
        show (if b = true then _ else _) = _
        cases b with
        | false => exact h
        | true =>
          rw [if_pos rfl] at h ⊢
          obtain ⟨o1, h1, h⟩ := bind_some h
          rw [h1]
          cases o1 with
          | ret b => exact h
          | go g' => exact loopW_some.mpr ⟨n, h⟩
          | cnt g' => exact loopW_some.mpr ⟨n, h⟩
          | exc c => exact h
    · intro h
      obtain ⟨b, hb, h⟩ := bind_some h
      cases b with
      | false => exact ⟨1, by show (c g).bind _ = _; rw [hb]; exact h⟩
      | true =>
        rw [if_pos rfl] at h
        obtain ⟨o1, h1, h⟩ := bind_some h
        cases o1 with
        | ret b => exact ⟨1, by show (c g).bind _ = _; rw [hb]; show (f g).bind _ = _; rw [h1]; exact h⟩
        | go g' =>
          obtain ⟨n, h⟩ := loopW_some.mp h
          exact ⟨n + 1, by show (c g).bind _ = _; rw [hb]; show (f g).bind _ = _; rw [h1]; exact h⟩
        | cnt g' =>
          obtain ⟨n, h⟩ := loopW_some.mp h
          exact ⟨n + 1, by show (c g).bind _ = _; rw [hb]; show (f g).bind _ = _; rw [h1]; exact h⟩
        | exc e => exact ⟨1, by show (c g).bind _ = _; rw [hb]; show (f g).bind _ = _; rw [h1]; exact h⟩
  cases h : loopW c f g with
  | some o => exact ((key o).mp h).symm
  | none =>
    cases h2 : ((c g).bind fun b => if b then (f g).bind fun o => match o with
      | .ret b => some (.ret b)
      | .go g' => loopW c f g'
      | .cnt g' => loopW c f g'
      | .exc c => some (.exc c)
    else some (.go g)) with
    | none => rfl
    | some o =>
      rw [(key o).mpr h2] at h
      cases h
theorem bs_while {γ1 : Type} {body : List Stmt} {oc : γ1 → Option Bool} {f : γ1 → Option (Out β γ1)} {m : γ1 → Option (Out β γ)} (P : γ1 → List SV) (g0 : γ1)
    (h0 : Wk ρ (P g0)) (hc : ∀ g, Tp X (P g) c (oc g)) (hb : ∀ g, Bs X xx (P g) body fr (f g) P) (hr : ∀ g, Bs X xx (P g) rest fr (m g) post) (hp : PassesOwn (model X.prog X.w) X.A X.env X.xe) :
    Bs X xx ρ (.While c body [] pos :: rest) fr (thenO (loopW oc f g0) m) post := .mk fun out ho We B σ W D S k => by
  obtain ⟨o1, h1, hf⟩ := bind_some ho
  obtain ⟨n0, h1⟩ := loopW_some.mp h1
  refine useSs (pss_cons (ps_while hp pt_run pss_run) pss_run) ?_
  refine ⟨fun n σ' H' => ∃ g' W', H' = W'.h ∧ SR X.K We B (P g') σ' W' ∧ loopN oc f n g' = some o1, ⟨n0, g0, W, rfl, S.wk h0, h1⟩, ?_⟩
  rintro n σ' H' ⟨g', W', rfl, S', hl⟩
  cases n with
  | zero => cases hl
  | succ n =>
    obtain ⟨b, hb', hl⟩ := bind_some hl
    refine (hc g').run b hb' We B σ' W' _ S' fun W1 l1 => ?_
    have S1 := S'.mono l1
    cases b with
    | false =>
      cases hl
      exact iteF ((hr g').run out hf We B σ' W1 D S1 k)
    | true =>
      rw [if_pos rfl] at hl
      obtain ⟨o2, h2, hl⟩ := bind_some hl
      refine iteT ⟨fun σ2 H2 => ∃ g2 W2, H2 = W2.h ∧ SR X.K We B (P g2) σ2 W2 ∧ loopN oc f n g2 = some o1, fun σ2 H2 hW => ⟨n, Nat.lt_succ_self n, hW⟩, ?_⟩
      refine (hb g').run o2 h2 We B σ' W1 _ S1 ?_
      cases o2 with
      | ret b =>
        cases hl
        cases hf
        exact k
      | go g2 => exact fun σ3 W3 S3 => ⟨g2, W3, rfl, S3, hl⟩
      | cnt g2 => exact fun σ3 W3 S3 => ⟨g2, W3, rfl, S3, hl⟩
      | exc c =>
        cases hl
        cases hf
        exact k
end
end T
/-! typed layer, fourth part: defs and calls, comprehensions, data compared -/
namespace T
variable [Tb]
open PySem PySem.Spec PyProof.Rows L2
open Evl (Ex)
open Rep (rel)

/-! ### what a def promises -/
def SV.settled (K : PySem.W.Frag) (W : Wd) (v : V) : SV → Prop
  | .any => True
  | @SV.imm _ r a => r.rel K W.s v a
  | @SV.mut _ _ _ => False
inductive AR (K : PySem.W.Frag) (W : Wd) : List V → List SV → Prop
  | nil : AR K W [] []
  | cons {v : V} {x : SV} {vs : List V} {xs : List SV} : SV.settled K W v x → AR K W vs xs → AR K W (v :: vs) (x :: xs)
theorem AR.len {K : PySem.W.Frag} {W : Wd} {vs : List V} {xs : List SV} (h : AR K W vs xs) : vs.length = xs.length := by
  induction h with
  | nil => rfl
  | cons _ _ ih => exact congrArg Nat.succ ih
theorem AR.get {K : PySem.W.Frag} {W : Wd} {vs : List V} {xs : List SV} (h : AR K W vs xs) : ∀ {j : Nat} {y : SV}, xs[j]? = some y → ∃ x, vs[j]? = some x ∧ SV.settled K W x y := by
  induction h with
  | nil => intro j y e; simp at e
  | cons r _ ih =>
    intro j y e
    cases j with
    | zero =>
      cases e
      exact ⟨_, rfl, r⟩
    | succ j => exact ih (j := j) e
/-- fr: the result is a new object; C: what is computed of what -/
def spOf (K : PySem.W.Frag) (fr : Bool) {β : Type} [Rep β] (C : List SV → β → Prop) : Sp := fun vs H Q _ =>
  ∃ (W : Wd) (avs : List SV) (r : β), H = W.h ∧ AR K W vs avs ∧ (∀ x ∈ avs, ¬ x.isMut) ∧ C avs r ∧
    ∀ v W', W.Le W' → rel K W'.s v r → (fr = true → ∃ p, v = .ref p ∧ fre W.h p) → Q v W'.h
def C1 {α β : Type} [Rep α] (m : α → Option β) : List SV → β → Prop := fun l r => ∃ a, l = [.imm a] ∧ m a = some r
def C2 {α α' β : Type} [Rep α] [Rep α'] (m : α → α' → Option β) : List SV → β → Prop := fun l r => ∃ a b, l = [.imm a, .imm b] ∧ m a b = some r
def C3 {α α' α'' β : Type} [Rep α] [Rep α'] [Rep α''] (m : α → α' → α'' → Option β) : List SV → β → Prop := fun l r => ∃ a b c, l = [.imm a, .imm b, .imm c] ∧ m a b c = some r
def C4 {α α' α'' α3 β : Type} [Rep α] [Rep α'] [Rep α''] [Rep α3] (m : α → α' → α'' → α3 → Option β) : List SV → β → Prop := fun l r => ∃ a b c d, l = [.imm a, .imm b, .imm c, .imm d] ∧ m a b c d = some r
def C5 {α α' α'' α3 α4 β : Type} [Rep α] [Rep α'] [Rep α''] [Rep α3] [Rep α4] (m : α → α' → α'' → α3 → α4 → Option β) : List SV → β → Prop := fun l r => ∃ a b c d e, l = [.imm a, .imm b, .imm c, .imm d, .imm e] ∧ m a b c d e = some r
/-- the value of a def's body -/
def retv {β γ : Type} (o : Option (Out β γ)) : Option β := match o with
  | some (.ret b) => some b
  | _ => none
/-- nothing is raised -/
def noX : Nat → Hp → Prop := fun _ _ => False
def nopost : Empty → List SV := fun z => nomatch z
section
variable {P : Program} {w : World} {K : PySem.W.Frag} {mg : Str → Option Value} {base : Heap} {name qual : Str} {params : Arguments} {body : List Stmt} {scope : Scope} {f : Addr} {fd : FuncData} {N ps : List Str} {k : Nat} {β : Type} [Rep β] {fr : Bool} {C : List SV → β → Prop}
abbrev cx0 (P : Program) (w : World) (K : PySem.W.Frag) (mg : Str → Option Value) (base : Heap) (N : List Str) (qual : Str) (scope : Scope) (f : Addr) (cd : Value) (A : Around) (outer : List Env) (s : Shared) (H : Hp) (E : XK) : Cx := (cxOf CX0 P w K mg base N qual scope f cd A outer s H E).nox
theorem sr_start {W : Wd} {vs : List V} {avs : List SV} (hl : avs.length ≤ N.length) (r : AR K W vs avs) (nm : ∀ x ∈ avs, ¬ x.isMut) : SR K W W.s (avs ++ List.replicate (N.length - avs.length) .any) (L2.start N vs) W := by
  have el := r.len
  unfold L2.start
  refine ⟨.refl W, Ex.refl _, by simp [el], fun i x h => ?_, fun i j x y l hij hi hj mi mj _ _ => ?_⟩
  · by_cases hi : i < avs.length
    · rw [List.getElem?_append_left hi] at h
      obtain ⟨v, hv, rv⟩ := r.get h
      rw [List.getElem?_append_left (by rw [List.length_map, el]; exact hi), List.getElem?_map, hv]
      match x, rv with
      | .any, _ => trivial
      | @SV.imm _ ii a, rv => exact ⟨v, rfl, rv⟩
    · rw [List.getElem?_append_right (by omega), List.getElem?_replicate] at h
      split at h
      · cases h
        trivial
      · cases h
  · by_cases hi' : i < avs.length
    · rw [List.getElem?_append_left hi'] at hi
      exact nm x (List.mem_of_getElem? hi) mi
    · rw [List.getElem?_append_right (by omega), List.getElem?_replicate] at hi
      split at hi
      · cases hi
        exact mi
      · cases hi
/-- THE RULE of a def: its body, from the arguments -/
theorem fn_ok {γ : Type} {post : γ → List SV} (F : FunD K name qual params body scope [] [] f fd) (S : FnScope N ps scope) (hl : ps.length ≤ N.length) (hC : ∀ l r, C l r → l.length = ps.length)
    (h : ∀ (cdv : Value) (A : Around) (outer : List Env) (s : Shared) (H : Hp) (E : XK), Room k (A.deeper (envOfC qual scope s.heap.objs.size f cdv)) → ∀ l r, C l r →
      ∃ m : Option (Out β γ), retv m = some r ∧ Bs (cx0 P w K mg base N qual scope f cdv A outer s H E) noX (l ++ List.replicate (N.length - l.length) .any) body fr m post) :
    FnOk P w K mg base CX0 (k + 1) f fd ps (spOf K fr C) := by
  refine F.ok S (fun vs H Q E ⟨W, avs, r, _, pr, _, c, _⟩ => pr.len.trans (hC _ _ c)) (fun cdv A outer s H vs Q E hr ⟨W, avs, r, eh, pr, nm, c, q⟩ => ?_)
  subst eh
  obtain ⟨m, hm, hb⟩ := h cdv A outer s W.h E hr avs r c
  refine ⟨RunSs (cx0 P w K mg base N qual scope f cdv A outer s W.h E) body, PSs.nox pss_run, ?_⟩
  unfold retv at hm
  split at hm
  · rename_i b
    cases hm
    refine hb.run (.ret r) rfl W W.s _ W _ (sr_start (by rw [hC _ _ c]; exact hl) pr nm) ?_
    exact fun v W' le _ rr hf => q v W' le rr hf
  · cases hm
theorem fn_ok1 {α γ : Type} [Rep α] {m : α → Option (Out β γ)} {post : γ → List SV} (F : FunD K name qual params body scope [] [] f fd) (S : FnScope N ps scope) (hl : ps.length ≤ N.length) (h1 : ps.length = 1)
    (h : ∀ (cdv : Value) (A : Around) (outer : List Env) (s : Shared) (H : Hp) (E : XK), Room k (A.deeper (envOfC qual scope s.heap.objs.size f cdv)) → ∀ a, Bs (cx0 P w K mg base N qual scope f cdv A outer s H E) noX ([.imm a] ++ List.replicate (N.length - 1) .any) body fr (m a) post) :
    FnOk P w K mg base CX0 (k + 1) f fd ps (spOf K fr (C1 fun a => retv (m a))) :=
  fn_ok F S hl (fun l r ⟨a, e, _⟩ => by rw [e, h1]; rfl) fun cdv A outer s H E hr l r ⟨a, e, hm⟩ => by
    subst e
    exact ⟨m a, hm, h cdv A outer s H E hr a⟩
theorem fn_ok2 {α α' γ : Type} [Rep α] [Rep α'] {m : α → α' → Option (Out β γ)} {post : γ → List SV} (F : FunD K name qual params body scope [] [] f fd) (S : FnScope N ps scope) (hl : ps.length ≤ N.length) (h1 : ps.length = 2)
    (h : ∀ (cdv : Value) (A : Around) (outer : List Env) (s : Shared) (H : Hp) (E : XK), Room k (A.deeper (envOfC qual scope s.heap.objs.size f cdv)) → ∀ a b, Bs (cx0 P w K mg base N qual scope f cdv A outer s H E) noX ([.imm a, .imm b] ++ List.replicate (N.length - 2) .any) body fr (m a b) post) :
    FnOk P w K mg base CX0 (k + 1) f fd ps (spOf K fr (C2 fun a b => retv (m a b))) :=
  fn_ok F S hl (fun l r ⟨a, b, e, _⟩ => by rw [e, h1]; rfl) fun cdv A outer s H E hr l r ⟨a, b, e, hm⟩ => by
    subst e
    exact ⟨m a b, hm, h cdv A outer s H E hr a b⟩
theorem fn_ok3 {α α' α'' γ : Type} [Rep α] [Rep α'] [Rep α''] {m : α → α' → α'' → Option (Out β γ)} {post : γ → List SV} (F : FunD K name qual params body scope [] [] f fd) (S : FnScope N ps scope) (hl : ps.length ≤ N.length) (h1 : ps.length = 3)
    (h : ∀ (cdv : Value) (A : Around) (outer : List Env) (s : Shared) (H : Hp) (E : XK), Room k (A.deeper (envOfC qual scope s.heap.objs.size f cdv)) → ∀ a b c, Bs (cx0 P w K mg base N qual scope f cdv A outer s H E) noX ([.imm a, .imm b, .imm c] ++ List.replicate (N.length - 3) .any) body fr (m a b c) post) :
    FnOk P w K mg base CX0 (k + 1) f fd ps (spOf K fr (C3 fun a b c => retv (m a b c))) :=
  fn_ok F S hl (fun l r ⟨a, b, c, e, _⟩ => by rw [e, h1]; rfl) fun cdv A outer s H E hr l r ⟨a, b, c, e, hm⟩ => by
    subst e
    exact ⟨m a b c, hm, h cdv A outer s H E hr a b c⟩
theorem fn_ok4 {α α' α'' α3 γ : Type} [Rep α] [Rep α'] [Rep α''] [Rep α3] {m : α → α' → α'' → α3 → Option (Out β γ)} {post : γ → List SV} (F : FunD K name qual params body scope [] [] f fd) (S : FnScope N ps scope) (hl : ps.length ≤ N.length) (h1 : ps.length = 4)
    (h : ∀ (cdv : Value) (A : Around) (outer : List Env) (s : Shared) (H : Hp) (E : XK), Room k (A.deeper (envOfC qual scope s.heap.objs.size f cdv)) → ∀ a b c d, Bs (cx0 P w K mg base N qual scope f cdv A outer s H E) noX ([.imm a, .imm b, .imm c, .imm d] ++ List.replicate (N.length - 4) .any) body fr (m a b c d) post) :
    FnOk P w K mg base CX0 (k + 1) f fd ps (spOf K fr (C4 fun a b c d => retv (m a b c d))) :=
  fn_ok F S hl (fun l r ⟨a, b, c, d, e, _⟩ => by rw [e, h1]; rfl) fun cdv A outer s H E hr l r ⟨a, b, c, d, e, hm⟩ => by
    subst e
    exact ⟨m a b c d, hm, h cdv A outer s H E hr a b c d⟩
theorem fn_ok5 {α α' α'' α3 α4 γ : Type} [Rep α] [Rep α'] [Rep α''] [Rep α3] [Rep α4] {m : α → α' → α'' → α3 → α4 → Option (Out β γ)} {post : γ → List SV} (F : FunD K name qual params body scope [] [] f fd) (S : FnScope N ps scope) (hl : ps.length ≤ N.length) (h1 : ps.length = 5)
    (h : ∀ (cdv : Value) (A : Around) (outer : List Env) (s : Shared) (H : Hp) (E : XK), Room k (A.deeper (envOfC qual scope s.heap.objs.size f cdv)) → ∀ a b c d e, Bs (cx0 P w K mg base N qual scope f cdv A outer s H E) noX ([.imm a, .imm b, .imm c, .imm d, .imm e] ++ List.replicate (N.length - 5) .any) body fr (m a b c d e) post) :
    FnOk P w K mg base CX0 (k + 1) f fd ps (spOf K fr (C5 fun a b c d e => retv (m a b c d e))) :=
  fn_ok F S hl (fun l r ⟨a, b, c, d, e, eq, _⟩ => by rw [eq, h1]; rfl) fun cdv A outer s H E hr l r ⟨a, b, c, d, e, eq, hm⟩ => by
    subst eq
    exact ⟨m a b c d e, hm, h cdv A outer s H E hr a b c d e⟩
end
/-! ### calls -/
section
variable {X : Cx} {ρ : List SV} {pos : Pos} {e a b c d : Expr} {es : List Expr}
/-- arguments -/
structure Ag (X : Cx) (ρ : List SV) (es : List Expr) (o : Option (List SV)) : Prop where
  run : ∀ l, o = some l → (∀ x ∈ l, ¬ x.isMut) ∧ ∀ (We : Wd) (B : Hp) (σ : L2.St) (W : Wd) (Q : List V → Hp → Prop), SR X.K We B ρ σ W → (∀ vs W', W.Le W' → AR X.K W' vs l → Q vs W'.h) → RunA X es σ W.h Q
theorem ag_nil : Ag X ρ [] (some []) := .mk fun l hl => by
  cases hl
  exact ⟨fun x hx => (by cases hx), fun We B σ W Q S k => useA pa_nil (k [] W (.refl W) .nil)⟩
theorem settled_mono {K : PySem.W.Frag} {W W' : Wd} {v : V} {x : SV} (le : W.Le W') (h : SV.settled K W v x) : SV.settled K W' v x := by
  match x, h with
  | .any, _ => trivial
  | @SV.imm _ ii a, h => exact ii.mono le.s h
def oarg {α : Type} [Rep α] (x : Option α) (l : Option (List SV)) : Option (List SV) := x.bind fun a => l.bind fun r => some (.imm a :: r)
theorem ag_cons {α : Type} [Rep α] {oa : Option α} {os : Option (List SV)} (ha : Ep X ρ a oa) (hs : Ag X ρ es os) (hst : NS X a := by intro _; rfl) : Ag X ρ (a :: es) (oarg oa os) := .mk fun l hl => by
  obtain ⟨x, hx, hl⟩ := bind_some hl
  obtain ⟨r, hr, hl⟩ := bind_some hl
  cases hl
  obtain ⟨h1, h2⟩ := hs.run r hr
  refine ⟨fun y hy => ?_, fun We B σ W Q S k => useA (pa_cons pe_run pa_run (hst _)) (ha.run x hx We B σ W _ S fun v W1 l1 r1 => h2 We B σ W1 _ (S.mono l1) fun us W2 l2 r2 => ?_)⟩
  · rcases List.mem_cons.mp hy with e | hy
    · subst e
      exact fun z => z
    · exact h1 y hy
  · exact k (v :: us) W2 (l1.trans l2) (.cons (Rep.mono l2.s r1) r2)
theorem run_call {β : Type} [Rep β] {fr : Bool} {C : List SV → β → Prop} {k : Nat} {f : Addr} {fd : FuncData} {ps : List Str} {x : Str} {p1 : Pos} {o : Option (List SV)}
    (F : FnOk X.prog X.w X.K X.mg X.base CX0 k f fd ps (spOf X.K fr C)) (hr : Room k X.A) (hg : Gl X x) (hm : X.mg x = some (.ref f)) (hk : PySem.W.keepIn X.K (.ref f) = true) (hb : Binds X.K fd ps [])
    (ha : Ag X ρ (a :: es) o) (hst : NS X a) (hd : (x == ("__debug__" : Str)) = false) (hpl : (backTo pos (starEach es X.env)).any (·.1) = false) {r : β} {l : List SV} (hl : o = some l) (hc : C l r) {We : Wd} {B : Hp} {σ : L2.St} {W : Wd} {Q : VK} (S : SR X.K We B ρ σ W)
    (q : ∀ v W', W.Le W' → rel X.K W'.s v r → (fr = true → ∃ p, v = .ref p ∧ fre W.h p) → Q v W'.h) : RunE X (.Call (.Name x p1) (a :: es) [] pos) σ W.h Q := by
  obtain ⟨nm, h2⟩ := ha.run l hl
  refine useE (pe_call F hr hg hm hk hb .nil (E := E0) pass0 pa_run hd (hst _) hpl) (h2 We B σ W _ S fun vs W1 l1 pr => ?_)
  refine ⟨W1, l, r, rfl, by rw [List.append_nil]; exact pr, nm, hc, fun v W2 l2 r2 hf => q v W2 (l1.trans l2) r2 fun z => ?_⟩
  obtain ⟨p, e1, e2⟩ := hf z
  exact ⟨p, e1, l1.h.back e2⟩
theorem ep_call {β : Type} [Rep β] {fr : Bool} {C : List SV → β → Prop} {k : Nat} {f : Addr} {fd : FuncData} {ps : List Str} {x : Str} {p1 : Pos} {o : Option (List SV)} {ob : Option β}
    (F : FnOk X.prog X.w X.K X.mg X.base CX0 k f fd ps (spOf X.K fr C)) (hr : Room k X.A) (hg : Gl X x) (hm : X.mg x = some (.ref f)) (hk : PySem.W.keepIn X.K (.ref f) = true) (hb : Binds X.K fd ps [])
    (ha : Ag X ρ (a :: es) o) (hC : ∀ r, ob = some r → ∃ l, o = some l ∧ C l r) (hst : NS X a := by intro _; rfl) (hd : (x == ("__debug__" : Str)) = false := by decide) (hpl : (backTo pos (starEach es X.env)).any (·.1) = false := by rfl) :
    Ep X ρ (.Call (.Name x p1) (a :: es) [] pos) ob := .mk fun r hr' We B σ W Q S q => by
  obtain ⟨l, hl, hc⟩ := hC r hr'
  exact run_call F hr hg hm hk hb ha hst hd hpl hl hc S fun v W' le rr _ => q v W' le rr
theorem ep_callF {β : Type} [Rep β] {C : List SV → List β → Prop} {k : Nat} {f : Addr} {fd : FuncData} {ps : List Str} {x : Str} {p1 : Pos} {o : Option (List SV)} {ob : Option (List β)}
    (F : FnOk X.prog X.w X.K X.mg X.base CX0 k f fd ps (spOf X.K true C)) (hr : Room k X.A) (hg : Gl X x) (hm : X.mg x = some (.ref f)) (hk : PySem.W.keepIn X.K (.ref f) = true) (hb : Binds X.K fd ps [])
    (ha : Ag X ρ (a :: es) o) (hC : ∀ r, ob = some r → ∃ l, o = some l ∧ C l r) (hst : NS X a := by intro _; rfl) (hd : (x == ("__debug__" : Str)) = false := by decide) (hpl : (backTo pos (starEach es X.env)).any (·.1) = false := by rfl) :
    EpF X ρ (.Call (.Name x p1) (a :: es) [] pos) ob := .mk fun r hr' We B σ W Q S q => by
  obtain ⟨l, hl, hc⟩ := hC r hr'
  refine run_call F hr hg hm hk hb ha hst hd hpl hl hc S fun v W' le ⟨p, vs, e1, e2, r2⟩ hf => ?_
  obtain ⟨p', e3, e4⟩ := hf rfl
  rw [e1] at e3
  cases e3
  subst e1
  exact q p vs W' le e4 e2 r2
theorem c1 {α β : Type} [Rep α] {m : α → Option β} {oa : Option α} : ∀ r, oa.bind m = some r → ∃ l, oarg oa (some []) = some l ∧ C1 m l r := fun r h => by
  obtain ⟨x, rfl, h⟩ := bind_some h
  exact ⟨_, rfl, x, rfl, h⟩
theorem c2 {α α' β : Type} [Rep α] [Rep α'] {m : α → α' → Option β} {oa : Option α} {ob : Option α'} : ∀ r, bind2 oa ob m = some r → ∃ l, oarg oa (oarg ob (some [])) = some l ∧ C2 m l r := fun r h => by
  obtain ⟨x, y, rfl, rfl, h⟩ := bind2_some h
  exact ⟨_, rfl, x, y, rfl, h⟩
def bind3 {α β γ δ : Type} (oa : Option α) (ob : Option β) (oc : Option γ) (f : α → β → γ → Option δ) : Option δ := oa.bind fun x => ob.bind fun y => oc.bind fun z => f x y z
def bind4 {α β γ δ ε : Type} (oa : Option α) (ob : Option β) (oc : Option γ) (od : Option δ) (f : α → β → γ → δ → Option ε) : Option ε := oa.bind fun x => ob.bind fun y => oc.bind fun z => od.bind fun u => f x y z u
def bind5 {α β γ δ ε ζ : Type} (oa : Option α) (ob : Option β) (oc : Option γ) (od : Option δ) (oe : Option ε) (f : α → β → γ → δ → ε → Option ζ) : Option ζ := oa.bind fun x => ob.bind fun y => oc.bind fun z => od.bind fun u => oe.bind fun v => f x y z u v
theorem c3 {α α' α'' β : Type} [Rep α] [Rep α'] [Rep α''] {m : α → α' → α'' → Option β} {oa : Option α} {ob : Option α'} {oc : Option α''} : ∀ r, bind3 oa ob oc m = some r → ∃ l, oarg oa (oarg ob (oarg oc (some []))) = some l ∧ C3 m l r := fun r h => by
  obtain ⟨x, rfl, h1⟩ := bind_some h
  obtain ⟨y, rfl, h2⟩ := bind_some h1
  obtain ⟨z, rfl, h3⟩ := bind_some h2
  exact ⟨_, rfl, x, y, z, rfl, h3⟩
theorem c4 {α α' α'' α3 β : Type} [Rep α] [Rep α'] [Rep α''] [Rep α3] {m : α → α' → α'' → α3 → Option β} {oa : Option α} {ob : Option α'} {oc : Option α''} {od : Option α3} : ∀ r, bind4 oa ob oc od m = some r → ∃ l, oarg oa (oarg ob (oarg oc (oarg od (some [])))) = some l ∧ C4 m l r := fun r h => by
  obtain ⟨x, rfl, h1⟩ := bind_some h
  obtain ⟨y, rfl, h2⟩ := bind_some h1
  obtain ⟨z, rfl, h3⟩ := bind_some h2
  obtain ⟨u, rfl, h4⟩ := bind_some h3
  exact ⟨_, rfl, x, y, z, u, rfl, h4⟩
theorem c5 {α α' α'' α3 α4 β : Type} [Rep α] [Rep α'] [Rep α''] [Rep α3] [Rep α4] {m : α → α' → α'' → α3 → α4 → Option β} {oa : Option α} {ob : Option α'} {oc : Option α''} {od : Option α3} {oe : Option α4} : ∀ r, bind5 oa ob oc od oe m = some r → ∃ l, oarg oa (oarg ob (oarg oc (oarg od (oarg oe (some []))))) = some l ∧ C5 m l r := fun r h => by
  obtain ⟨x, rfl, h1⟩ := bind_some h
  obtain ⟨y, rfl, h2⟩ := bind_some h1
  obtain ⟨z, rfl, h3⟩ := bind_some h2
  obtain ⟨u, rfl, h4⟩ := bind_some h3
  obtain ⟨t, rfl, h5⟩ := bind_some h4
  exact ⟨_, rfl, x, y, z, u, t, rfl, h5⟩
end
/-! ### comprehensions -/
def lcM {α β : Type} (c : α → Option Bool) (f : α → Option β) : List α → Option (List β)
  | [] => some []
  | x :: r => (c x).bind fun b => if b then (f x).bind fun y => (lcM c f r).bind fun ys => some (y :: ys) else lcM c f r
def wipeS (ρ : List SV) : List Nat → List SV
  | [] => ρ
  | v :: vs => (wipeS ρ vs).set v .any
theorem SR.wipe {K : PySem.W.Frag} {We W : Wd} {B : Hp} {ρ : List SV} {σ : L2.St} (S : SR K We B ρ σ W) : ∀ vs : List Nat, SR K We B (wipeS ρ vs) (L2.wipe σ vs) W
  | [] => S
  | v :: vs => (SR.wipe S vs).setAny (.refl W)
section
variable {X : Cx} {ρ : List SV} {pos : Pos} {elt tg iter : Expr} {ifs : List Expr} {scope : Scope}
theorem wipe_twice (σ : L2.St) (vs : List Nat) : L2.wipe (L2.wipe σ vs) vs = L2.wipe σ vs := by
  apply List.ext_getElem?
  intro i
  rw [wipe_get, wipe_get, wipe_length]
  by_cases hi : i ∈ vs
  · rw [if_pos hi, if_pos hi]
  · rw [if_neg hi, if_neg hi]
/-- the turns of a comprehension: what stands between them -/
def LcP (K : PySem.W.Frag) (We : Wd) (B : Hp) (ρ : List SV) (σ : L2.St) (W1 : Wd) (D : Addr) {α β : Type} [Rep β] (c : α → Option Bool) (f : α → Option β) (xs : List α) (all : List β) (i : Nat) (H : Hp) : Prop :=
  ∃ (W' : Wd) (vs : List V) (ys zs : List β), H = W'.h ∧ W1.Le W' ∧ W'.s D = none ∧ W'.h D = some (.lst vs) ∧ Paired (fun v x => rel K W'.s v x) vs ys ∧ vs.length ≤ i ∧ lcM c f (xs.drop i) = some zs ∧ all = ys ++ zs
theorem lcp_start {K : PySem.W.Frag} {We W1 : Wd} {B : Hp} {σ : L2.St} {D : Addr} {α β : Type} [Rep β] {c : α → Option Bool} {f : α → Option β} {xs : List α} {all : List β} (hD : W1.h D = none) (h : lcM c f xs = some all) : LcP K We B ρ σ W1 D c f xs all 0 (upd W1.h D (.lst [])) := by
  exact ⟨W1.upH D (.lst []) (ex_back W1.e hD) (fun o e => by rw [hD] at e; cases e), [], [], all, rfl, ⟨Ex.refl _, Eh.of (Ex.new hD), fun _ _ _ _ h => h⟩, ex_back W1.e hD, upd_same, .nil, Nat.le_refl _, h, rfl⟩
theorem lcp_turn {K : PySem.W.Frag} {We W1 : Wd} {B : Hp} {σ : L2.St} {D : Addr} {α β : Type} [Rep β] {c : α → Option Bool} {f : α → Option β} {xs : List α} {all : List β} {x : α} {i : Nat} {H : Hp} {vs : List Nat} {js : List Nat} {up : α → List SV → List SV} {g : TG} {tt : TT} {te : TE} {v : V}
    (hD : W1.h D = none) (hx : xs[i]? = some x) (hcap : capOk xs.length = true) (S : SR K We B ρ σ W1) [Rep α] (rx : rel K W1.s v x) (ht : TgR K g js up) (hjs : ∀ j ∈ js, j ∈ vs)
    (hts : ∀ b, c x = some b → ∀ (We : Wd) (B : Hp) (σ : L2.St) (W : Wd) (Q : Bool → Hp → Prop), SR K We B (up x (wipeS ρ vs)) σ W → (∀ W', W.Le W' → Q b W'.h) → tt σ W.h Q)
    (hes : ∀ y, f x = some y → ∀ (We : Wd) (B : Hp) (σ : L2.St) (W : Wd) (Q : VK), SR K We B (up x (wipeS ρ vs)) σ W → (∀ u W', W.Le W' → rel K W'.s u y → Q u W'.h) → te σ W.h Q)
    (p : LcP K We B ρ σ W1 D c f xs all i H) : g v (L2.wipe σ vs) H fun σ2 H2 => L2.wipe σ2 vs = L2.wipe σ vs ∧ tt σ2 H2 fun b H3 =>
      if b = true then te σ2 H3 fun y H4 => ∃ acc, H4 D = some (.lst acc) ∧ acc.length < sizeLine ∧ LcP K We B ρ σ W1 D c f xs all (i + 1) (upd H4 D (.lst (acc ++ [y]))) else LcP K We B ρ σ W1 D c f xs all (i + 1) H3 := by
  obtain ⟨W', us, ys, zs, rfl, l1, n1, h1, r1, hl, hm, rfl⟩ := p
  rw [drop_get hx] at hm
  obtain ⟨b, hb, hm⟩ := bind_some hm
  have hi : i < xs.length := (List.getElem?_eq_some_iff.mp hx).1
  have S' := (S.mono l1).wipe vs
  refine ht.run x We B _ _ W' v _ S' (Rep.mono l1.s rx) fun σ2 S2 hw => ⟨?_, ?_⟩
  · rw [hw vs hjs]
    exact wipe_twice σ vs
  · refine hts b hb We B σ2 W' _ S2 fun W3 l3 => ?_
    cases b with
    | false => exact iteF ⟨W3, us, ys, zs, rfl, l1.trans l3, l3.f D _ h1 rfl n1, l3.h _ _ h1 rfl, pmono (fun _ _ h => Rep.mono l3.s h) r1, by omega, hm, rfl⟩
    | true =>
      rw [if_pos rfl] at hm
      obtain ⟨y, hy, hm⟩ := bind_some hm
      obtain ⟨zs', hz, hm⟩ := bind_some hm
      cases hm
      refine iteT (hes y hy We B σ2 W3 _ (S2.mono l3) fun u W4 l4 r4 => ⟨us, l4.h _ _ (l3.h _ _ h1 rfl) rfl, ?_, ?_⟩)
      · refine Nat.lt_of_le_of_lt ?_ (cap_lt hcap)
        omega
      · have n4 : W4.s D = none := l4.f D _ (l3.h _ _ h1 rfl) rfl (l3.f D _ h1 rfl n1)
        have l14 := (l1.trans l3).trans l4
        refine ⟨W4.upH D (.lst (us ++ [u])) n4 (fun o e => by rw [l4.h _ _ (l3.h _ _ h1 rfl) rfl] at e; cases e; rfl), us ++ [u], ys ++ [y], zs', rfl, ⟨l14.s, fun q o hq hno => ?_, l14.f⟩, n4, upd_same, papp (pmono (fun _ _ h => Rep.mono (l3.trans l4).s h) r1) (.cons r4 .nil), ?_, hz, ?_⟩
        · show upd W4.h D _ q = some o
          rw [upd_ne (fun z => by subst z; rw [hD] at hq; cases hq)]
          exact l14.h q o hq hno
        · rw [List.length_append]
          exact Nat.add_le_add_right hl 1
        · rw [List.append_assoc]
          rfl
theorem lcp_end {K : PySem.W.Frag} {We W W1 : Wd} {B : Hp} {σ : L2.St} {D : Addr} {α β : Type} [Rep β] {c : α → Option Bool} {f : α → Option β} {xs : List α} {all : List β} {H : Hp} {Q : VK} (le : W.Le W1) (hD : W1.h D = none) (p : LcP K We B ρ σ W1 D c f xs all xs.length H)
    (k : ∀ p vs W', W.Le W' → fre W.h p → W'.s p = some (.lst vs) → Paired (fun v x => rel K W'.s v x) vs all → Q (.ref p) W'.h) : Q (.ref D) H := by
  obtain ⟨W', us, ys, zs, rfl, l1, n1, h1, r1, hl, hm, rfl⟩ := p
  rw [List.drop_length] at hm
  cases hm
  have ex : Ex W'.s (upd W'.s D (.lst us)) := Ex.new n1
  have l0 := le.trans l1
  have hD0 : fre W.h D := le.h.back (fre_of hD)
  refine k D us (W'.settle D (.lst us) h1 rfl) ⟨l0.s.trans ex, l0.h, fun q o h2 hno h3 => ?_⟩ hD0 upd_same (by rw [List.append_nil]; exact pmono (fun _ _ h => Rep.mono ex h) r1)
  · show upd W'.s D _ q = none
    rw [upd_ne (fun z => by subst z; exact fre_no hD0 h2 hno)]
    exact l0.f q o h2 hno h3
def tElt (X : Cx) (scope : Scope) (elt : Expr) : TE := fun σ H Q => ∀ (s : Shared) (H0 : Hp) (C : Addr) (cl : List (Str × Addr)) (fp : List Addr), RunE (X.blk s H0 scope (compEnvC scope cl C X.env) fp) elt σ H Q
/-- [elt for tg in iter if ..] computes o -/
structure LcOk (X : Cx) (ρ : List SV) (elt tg iter : Expr) (ifs : List Expr) (scope : Scope) {β : Type} [Rep β] (o : Option (List β)) : Prop where
  ex : ∃ (wi : TI) (g : TG) (tt : TT) (te : TE) (own : List (Str × Nat)), PI X tg iter wi ∧ BlkOk X.N X.env.scope scope own ∧
    (∀ (s : Shared) (H : Hp) (C : Addr) (cl : List (Str × Addr)) (fp : List Addr), PG (X.blk s H scope (compEnvC scope cl C X.env) fp) tg g) ∧
    (∀ (s : Shared) (H : Hp) (C : Addr) (cl : List (Str × Addr)) (fp : List Addr), PTs (X.blk s H scope (compEnvC scope cl C X.env) fp) ifs tt) ∧
    (∀ (s : Shared) (H : Hp) (C : Addr) (cl : List (Str × Addr)) (fp : List Addr), PE (X.blk s H scope (compEnvC scope cl C X.env) fp) elt te) ∧
    (∀ x, foldedSetIterable iter X.env x = pure x) ∧
    ∀ all, o = some all → ∀ (We : Wd) (B : Hp) (σ : L2.St) (W : Wd) (Q : VK), SR X.K We B ρ σ W → (∀ p vs W', W.Le W' → fre W.h p → W'.s p = some (.lst vs) → Paired (fun v x => rel X.K W'.s v x) vs all → Q (.ref p) W'.h) → tLc wi g tt te (own.map (·.2)) σ W.h Q
theorem LcOk.ep {β : Type} [Rep β] {o : Option (List β)} (hc : X.calm = true) (nd : X.N.Nodup) (h : LcOk X ρ elt tg iter ifs scope o) : EpF X ρ (.ListComp elt [⟨tg, iter, ifs, 0⟩] scope pos) o := .mk fun all hall We B σ W Q S k => by
  obtain ⟨wi, g, tt, te, own, h1, h2, h3, h4, h5, h6, h7⟩ := h.ex
  exact useE (pe_lc hc nd h1 h2 h3 h4 h5 h6) (h7 all hall We B σ W Q S k)
/-- iter a list -/
theorem lc_C {α β : Type} [Rep α] [Rep β] {g : TG} {js : List Nat} {up : α → List SV → List SV} {oxs : Option (List α)} {oc : α → Option Bool} {f : α → Option β} {tt : TT} (own : List (Str × Nat)) (ok : BlkOk X.N X.env.scope scope own) (hi : Lp X ρ iter oxs)
    (hg : ∀ (s : Shared) (H : Hp) (C : Addr) (cl : List (Str × Addr)) (fp : List Addr), PG (X.blk s H scope (compEnvC scope cl C X.env) fp) tg g) (ht : TgR X.K g js up) (hjs : ∀ j ∈ js, j ∈ own.map (·.2))
    (hpt : ∀ (s : Shared) (H : Hp) (C : Addr) (cl : List (Str × Addr)) (fp : List Addr), PTs (X.blk s H scope (compEnvC scope cl C X.env) fp) ifs tt)
    (hts : ∀ x b, oc x = some b → ∀ (We : Wd) (B : Hp) (σ : L2.St) (W : Wd) (Q : Bool → Hp → Prop), SR X.K We B (up x (wipeS ρ (own.map (·.2)))) σ W → (∀ W', W.Le W' → Q b W'.h) → tt σ W.h Q)
    (he : ∀ x (s : Shared) (H : Hp) (C : Addr) (cl : List (Str × Addr)) (fp : List Addr), Ep (X.blk s H scope (compEnvC scope cl C X.env) fp) (up x (wipeS ρ (own.map (·.2)))) elt (f x)) (hs : ∀ x, foldedSetIterable iter X.env x = pure x) :
    LcOk X ρ elt tg iter ifs scope (oxs.bind fun xs => if capOk xs.length then lcM oc f xs else none) := ⟨_, g, tt, tElt X scope elt, own, pi_list pe_run, ok, hg, hpt, fun s H C cl fp => ⟨fun pins s' σ' H' Q' I h => h s H C cl fp pins s' I⟩, hs, fun all hall We B σ W Q S k => by
  obtain ⟨xs, hxs, hm⟩ := bind_some hall
  split at hm
  · rename_i hcap
    refine hi.run xs hxs We B σ W _ S fun p vs W1 l1 hp r1 => ?_
    refine ⟨p, rfl, ⟨vs, .of hp⟩, fun D hD => ?_⟩
    refine lc_list (g := g) (tt := tt) (te := tElt X scope elt) (σ := σ) (vs := own.map (·.2)) (Qd := fun H => Q (.ref D) H) (xs := vs) (LcP X.K We B ρ σ W1 D oc f xs all) (lcp_start hD hm) ?_ ?_ ?_
    · rintro i H _ ⟨W', us, ys, zs, rfl, l2, _⟩
      exact .of (l2.h _ _ hp rfl)
    · intro i v H hv pv
      obtain ⟨x, hx, rx⟩ := pget' r1 hv
      exact lcp_turn hD hx hcap (S.mono l1) rx ht hjs (fun b hb => hts x b hb) (fun y hy We' B' σ' W' Q' S' k' s H0 C cl fp => (he x s H0 C cl fp).run y hy We' B' σ' W' Q' S' k') pv
    · intro H pv
      rw [plen r1] at pv
      exact lcp_end l1 hD pv k
  · cases hm⟩
/-- .. over range(n) -/
theorem lc_R {β : Type} [Rep β] {g : TG} {js : List Nat} {up : Int → List SV → List SV} {n : Expr} {p1 p2 : Pos} {on : Option Int} {oc : Int → Option Bool} {f : Int → Option β} {tt : TT} (own : List (Str × Nat)) (hgl : Gl X "range") (hm : X.mg "range" = none) (ok : BlkOk X.N X.env.scope scope own) (hi : Ep X ρ n on)
    (hg : ∀ (s : Shared) (H : Hp) (C : Addr) (cl : List (Str × Addr)) (fp : List Addr), PG (X.blk s H scope (compEnvC scope cl C X.env) fp) tg g) (ht : TgR X.K g js up) (hjs : ∀ j ∈ js, j ∈ own.map (·.2))
    (hpt : ∀ (s : Shared) (H : Hp) (C : Addr) (cl : List (Str × Addr)) (fp : List Addr), PTs (X.blk s H scope (compEnvC scope cl C X.env) fp) ifs tt)
    (hts : ∀ x b, oc x = some b → ∀ (We : Wd) (B : Hp) (σ : L2.St) (W : Wd) (Q : Bool → Hp → Prop), SR X.K We B (up x (wipeS ρ (own.map (·.2)))) σ W → (∀ W', W.Le W' → Q b W'.h) → tt σ W.h Q)
    (he : ∀ x (s : Shared) (H : Hp) (C : Addr) (cl : List (Str × Addr)) (fp : List Addr), Ep (X.blk s H scope (compEnvC scope cl C X.env) fp) (up x (wipeS ρ (own.map (·.2)))) elt (f x)) (hs : ∀ x, foldedSetIterable (.Call (.Name "range" p1) [n] [] p2) X.env x = pure x)
    (hst : NS X n) : LcOk X ρ elt tg (.Call (.Name "range" p1) [n] [] p2) ifs scope ((orng on).bind fun xs => if capOk xs.length then lcM oc f xs else none) := ⟨_, g, tt, tElt X scope elt, own, pi_range1 hgl hm (pa_cons pe_run pa_nil (hst _)) (by rw [hst]; rfl), ok, hg, hpt, fun s H C cl fp => ⟨fun pins s' σ' H' Q' I h => h s H C cl fp pins s' I⟩, hs, fun all hall We B σ W Q S k => by
  obtain ⟨xs, hxs, hm'⟩ := bind_some hall
  obtain ⟨z, hz, hxs⟩ := bind_some hxs
  split at hxs
  · rename_i hok
    cases hxs
    unfold rngOk at hok
    simp only [Bool.and_eq_true, decide_eq_true_eq] at hok
    split at hm'
    · rename_i hcap
      refine hi.run z hz We B σ W _ S fun v W1 l1 r1 => ?_
      cases r1
      refine ⟨z, rfl, by omega, by omega, fun D hD => ?_⟩
      refine lc_range (g := g) (tt := tt) (te := tElt X scope elt) (σ := σ) (vs := own.map (·.2)) (Qd := fun H => Q (.ref D) H) (lo := 0) (n := z.toNat) (LcP X.K We B ρ σ W1 D oc f (rngL z) all) (lcp_start hD hm') ?_ ?_
      · intro i H hi' pv
        exact lcp_turn hD (rngL_get hi') hcap (S.mono l1) (show V.int (0 + (i : Int)) = V.int (i : Int) by rw [Int.zero_add]) ht hjs (fun b hb => hts _ b hb) (fun y hy We' B' σ' W' Q' S' k' s H0 C cl fp => (he _ s H0 C cl fp).run y hy We' B' σ' W' Q' S' k') pv
      · intro H pv
        rw [← rngL_len] at pv
        exact lcp_end l1 hD pv k
    · cases hm'
  · cases hxs⟩
/-- the tests: none, one -/
def oYes {α : Type} : α → Option Bool := fun _ => some true
theorem tts_nil {K : PySem.W.Frag} {α : Type} {ρ' : α → List SV} : ∀ (x : α) b, oYes x = some b → ∀ (We : Wd) (B : Hp) (σ : L2.St) (W : Wd) (Q : Bool → Hp → Prop), SR K We B (ρ' x) σ W → (∀ W', W.Le W' → Q b W'.h) → tYes σ W.h Q := fun x b hb We B σ W Q S k => by
  cases hb
  exact k W (.refl W)
def tOne (X : Cx) (scope : Scope) (c : Expr) : TT := fun σ H Q => ∀ (s : Shared) (H0 : Hp) (C : Addr) (cl : List (Str × Addr)) (fp : List Addr), RunT (X.blk s H0 scope (compEnvC scope cl C X.env) fp) c σ H Q
theorem pts_w {c : Expr} (s : Shared) (H : Hp) (C : Addr) (cl : List (Str × Addr)) (fp : List Addr) : PTs (X.blk s H scope (compEnvC scope cl C X.env) fp) [c] (tOne X scope c) :=
  pts_one ⟨fun pins s' σ' H' Q' I h => h s H C cl fp pins s' I⟩
theorem tts_one {α : Type} {ρ' : α → List SV} {c : Expr} {oc : α → Option Bool} (h : ∀ x (s : Shared) (H : Hp) (C : Addr) (cl : List (Str × Addr)) (fp : List Addr), Tp (X.blk s H scope (compEnvC scope cl C X.env) fp) (ρ' x) c (oc x)) :
    ∀ (x : α) b, oc x = some b → ∀ (We : Wd) (B : Hp) (σ : L2.St) (W : Wd) (Q : Bool → Hp → Prop), SR X.K We B (ρ' x) σ W → (∀ W', W.Le W' → Q b W'.h) → tOne X scope c σ W.h Q := fun x b hb We B σ W Q S k s H0 C cl fp => (h x s H0 C cl fp).run b hb We B σ W Q S k
theorem bs_asgLc {xx : Nat → Hp → Prop} {β γ δ : Type} [Rep β] [Rep δ] {fr : Bool} {post : γ → List SV} {rest : List Stmt} {o : Option (List δ)} {f : List δ → Option (Out β γ)} {x : Str} {p1 : Pos} {spos : Pos} (i : Nat) (hc : X.calm = true) (nd : X.N.Nodup) (h : LcOk X ρ elt tg iter ifs scope o) (hr : ∀ a, Bs X xx (ρ.set i (.imm a)) rest fr (f a) post)
    (hi : X.N[i]? = some x := by rfl) (hx : X.env.scope.names.lookup x = some .local := by rfl) (hsw : swapsWith (.ListComp elt [⟨tg, iter, ifs, 0⟩] scope pos) (some (.Name x p1)) spos.line X.env = pure true := by exact sw_true rfl rfl rfl (by decide +kernel)) :
    Bs X xx ρ (.Assign [.Name x p1] (.ListComp elt [⟨tg, iter, ifs, 0⟩] scope pos) spos :: rest) fr (o.bind f) post := .mk fun out ho We B σ W D S k => by
  obtain ⟨y, hy, hf'⟩ := bind_some ho
  obtain ⟨wi, g, tt, te, own, h1, h2, h3, h4, h5, h6, h7⟩ := h.ex
  refine useSs (pss_cons (ps_setLc hc nd hi hx hsw h1 h2 h3 h4 h5 h6) pss_run) ?_
  show tLc wi g tt te (own.map (·.2)) σ W.h (fun x H1 => RunSs X rest D (σ.set i (some x)) H1)
  refine h7 y hy We B σ W _ S fun p vs W1 l1 hn hp r1 => ?_
  exact (hr y).run out hf' We B _ W1 D (S.set l1 ⟨p, vs, rfl, hp, r1⟩) k
theorem bs_asgLcM {xx : Nat → Hp → Prop} {β γ δ : Type} [Rep β] [Flat δ] {fr : Bool} {post : γ → List SV} {rest : List Stmt} {o : Option (List δ)} {f : List δ → Option (Out β γ)} {x : Str} {p1 : Pos} {spos : Pos} (i : Nat) (hc : X.calm = true) (nd : X.N.Nodup) (h : LcOk X ρ elt tg iter ifs scope o) (hr : ∀ a, Bs X xx (ρ.set i (.mut (ML.mk a))) rest fr (f a) post)
    (hi : X.N[i]? = some x := by rfl) (hx : X.env.scope.names.lookup x = some .local := by rfl) (hsw : swapsWith (.ListComp elt [⟨tg, iter, ifs, 0⟩] scope pos) (some (.Name x p1)) spos.line X.env = pure true := by exact sw_true rfl rfl rfl (by decide +kernel)) :
    Bs X xx ρ (.Assign [.Name x p1] (.ListComp elt [⟨tg, iter, ifs, 0⟩] scope pos) spos :: rest) fr (o.bind f) post := .mk fun out ho We B σ W D S k => by
  obtain ⟨y, hy, hf'⟩ := bind_some ho
  obtain ⟨wi, g, tt, te, own, h1, h2, h3, h4, h5, h6, h7⟩ := h.ex
  refine useSs (pss_cons (ps_setLc hc nd hi hx hsw h1 h2 h3 h4 h5 h6) pss_run) ?_
  show tLc wi g tt te (own.map (·.2)) σ W.h (fun x H1 => RunSs X rest D (σ.set i (some x)) H1)
  refine h7 y hy We B σ W _ S fun p vs W1 l1 hn hp r1 => ?_
  obtain ⟨W2, e2, S2⟩ := S.newM (i := i) l1 hn hp r1
  have z := (hr y).run out hf' We B _ W2 D S2 k
  rw [e2] at z
  exact z
theorem bs_none {xx : Nat → Hp → Prop} {β γ : Type} [Rep β] {fr : Bool} {post : γ → List SV} {st : List Stmt} : Bs X xx ρ st (β := β) fr none post := .mk fun out ho => by cases ho
/-- a, b = e1, e2 -/
theorem bs_par {xx : Nat → Hp → Prop} {β γ α α' : Type} [Rep β] [Rep α] [Rep α'] {fr : Bool} {post : γ → List SV} {rest : List Stmt} {a b : Expr} {oa : Option α} {ob : Option α'} {f : α → α' → Option (Out β γ)} {x y : Str} {px py pt : Pos} {kt k2 pt2} (i j : Nat) (hc : X.calm = true) (nd : X.N.Nodup)
    (ha : Ep X ρ a oa) (hb : Ep X ρ b ob) (hr : ∀ u v, Bs X xx ((ρ.set i (.imm u)).set j (.imm v)) rest fr (f u v) post) (hi : X.N[i]? = some x := by rfl) (hj : X.N[j]? = some y := by rfl) (hij : i ≠ j := by decide)
    (hx : X.env.scope.names.lookup x = some .local := by rfl) (hy : X.env.scope.names.lookup y = some .local := by rfl) (hw : swappedStores [.Tuple [.Name x px, .Name y py] kt pt] (.Tuple [a, b] k2 pt2) X.env = pure (some [x, y]) := by rfl)
    (hs : swapsWithSole [.Tuple [.Name x px, .Name y py] kt pt] (.Tuple [a, b] k2 pt2) pos.line X.env = pure false := by rfl) (na : NS X a := by intro _; rfl) (nb : NS X b := by intro _; rfl) :
    Bs X xx ρ (.Assign [.Tuple [.Name x px, .Name y py] kt pt] (.Tuple [a, b] k2 pt2) pos :: rest) fr (bind2 oa ob f) post := .mk fun out ho We B σ W D S k => by
  obtain ⟨u, v, hu, hv, hf⟩ := bind2_some ho
  refine useSs (pss_cons (ps_par hc nd hi hj hij hx hy (pa_cons pe_run (pa_cons pe_run pa_nil (nb _)) (na _)) hw hs) pss_run) (ha.run u hu We B σ W _ S fun z W1 l1 r1 => hb.run v hv We B σ W1 _ (S.mono l1) fun z2 W2 l2 r2 => ?_)
  exact ⟨z, z2, rfl, (hr u v).run out hf We B _ W2 D ((S.set (l1.trans l2) (Rep.mono l2.s r1)).set (.refl W2) r2) k⟩
end
end T
/-! typed layer, fifth part: data compared, built-ins, the script, defs known by name -/
namespace T
open PySem PySem.Spec PyProof.Rows L2
open Evl (Ex)
open Rep (rel)

/-! ### data -/
class Dat (α : Type) extends Rep α where
  toD : α → PyData
  dp : ∀ {K : PySem.W.Frag} {H : Hp} {v : V} {a : α}, rel K H v a → Dp K H v (toD a)
  lay : ∀ a, (toD a).canLay0 = true
  deep : Nat
  dep : ∀ a, (toD a).depth ≤ deep
  eqv : ∀ a b, PyData.eqv (toD a) (toD b) = true ↔ a = b
theorem eqv_dec {α : Type} [Dat α] [DecidableEq α] (a b : α) : PyData.eqv (Dat.toD a) (Dat.toD b) = decide (a = b) := by
  by_cases h : a = b
  · rw [decide_eq_true h]
    exact (Dat.eqv a b).mpr h
  · rw [decide_eq_false h]
    cases e : PyData.eqv (Dat.toD a) (Dat.toD b) with
    | false => rfl
    | true => exact absurd ((Dat.eqv a b).mp e) h
theorem shaped_of {α : Type} [Dat α] (h : Dat.deep α ≤ 64) (a : α) : SeqAt.shaped (Dat.toD a) = true := by
  unfold SeqAt.shaped
  rw [Dat.lay a, Bool.true_and]
  exact decide_eq_true (Nat.le_trans (Dat.dep a) h)
instance : Dat Int where
  toD := .int
  dp := fun h => by
    cases h
    exact .int _
  lay := fun _ => rfl
  deep := 0
  dep := fun _ => Nat.le_refl _
  eqv := fun a b => by
    show (a == b) = true ↔ _
    exact beq_iff_eq
instance : Dat Bool where
  toD := .bool
  dp := fun h => by
    cases h
    exact .bl _
  lay := fun _ => rfl
  deep := 0
  dep := fun _ => Nat.le_refl _
  eqv := fun a b => by
    show (a == b) = true ↔ _
    exact beq_iff_eq
theorem max_le' {a b c : Nat} (h1 : a ≤ c) (h2 : b ≤ c) : max a b ≤ c := by omega
theorem canLay_tuple (xs : List PyData) : (PyData.tuple xs).canLay0 = PyData.canLayAll0 xs := by simp only [PyData.canLay0]
theorem canLay_list (xs : List PyData) : (PyData.list xs).canLay0 = PyData.canLayAll0 xs := by simp only [PyData.canLay0]
theorem canLayAll_cons (x : PyData) (xs : List PyData) : PyData.canLayAll0 (x :: xs) = (x.canLay0 && PyData.canLayAll0 xs) := by simp only [PyData.canLayAll0]
theorem canLayAll_nil : PyData.canLayAll0 [] = true := by simp only [PyData.canLayAll0]
theorem depth_tuple (xs : List PyData) : (PyData.tuple xs).depth = PyData.depthAll xs + 1 := by simp only [PyData.depth]
theorem depth_list (xs : List PyData) : (PyData.list xs).depth = PyData.depthAll xs + 1 := by simp only [PyData.depth]
theorem depthAll_cons (x : PyData) (xs : List PyData) : PyData.depthAll (x :: xs) = max x.depth (PyData.depthAll xs) := by simp only [PyData.depthAll]
theorem depthAll_nil : PyData.depthAll [] = 0 := by simp only [PyData.depthAll]
theorem eqv_tuple (xs ys : List PyData) : PyData.eqv (.tuple xs) (.tuple ys) = PyData.eqvAll xs ys := by simp only [PyData.eqv]
theorem eqv_list (xs ys : List PyData) : PyData.eqv (.list xs) (.list ys) = PyData.eqvAll xs ys := by simp only [PyData.eqv]
theorem eqvAll_cons (x y : PyData) (xs ys : List PyData) : PyData.eqvAll (x :: xs) (y :: ys) = (PyData.eqv x y && PyData.eqvAll xs ys) := by simp only [PyData.eqvAll]
theorem eqvAll_nil : PyData.eqvAll [] [] = true := by simp only [PyData.eqvAll]
instance {α β : Type} [Dat α] [Dat β] : Dat (α × β) where
  toD := fun p => .tuple [Dat.toD p.1, Dat.toD p.2]
  dp := fun h => by
    obtain ⟨p, x, y, rfl, h2, h3, h4⟩ := h
    exact .tup (.of h2) (.cons (Dat.dp h3) (.cons (Dat.dp h4) .nil))
  lay := fun a => by rw [canLay_tuple, canLayAll_cons, canLayAll_cons, canLayAll_nil, Dat.lay, Dat.lay]; rfl
  deep := max (Dat.deep α) (Dat.deep β) + 1
  dep := fun a => by
    rw [depth_tuple, depthAll_cons, depthAll_cons, depthAll_nil]
    have h1 := Dat.dep a.1
    have h2 := Dat.dep a.2
    omega
  eqv := fun a b => by
    rw [eqv_tuple, eqvAll_cons, eqvAll_cons, eqvAll_nil, Bool.and_true, Bool.and_eq_true, Dat.eqv, Dat.eqv]
    exact (Prod.ext_iff).symm
instance : Dat Tri where
  toD := fun t => .tuple [.int t.a, .int t.b, .int t.c]
  dp := fun h => by
    obtain ⟨p, rfl, h2⟩ := h
    exact .tup (.of h2) (.cons (.int _) (.cons (.int _) (.cons (.int _) .nil)))
  lay := fun a => rfl
  deep := 1
  dep := fun a => by
    rw [depth_tuple, depthAll_cons, depthAll_cons, depthAll_cons, depthAll_nil]
    simp only [PyData.depth]
    decide
  eqv := fun a b => by
    rw [eqv_tuple, eqvAll_cons, eqvAll_cons, eqvAll_cons, eqvAll_nil]
    simp only [PyData.eqv, Bool.and_true, Bool.and_eq_true, beq_iff_eq]
    constructor
    · rintro ⟨h1, h2, h3⟩
      cases a
      cases b
      simp at h1 h2 h3
      rw [h1, h2, h3]
    · rintro rfl
      exact ⟨rfl, rfl, rfl⟩
theorem dpAll_of {α : Type} [Dat α] {K : PySem.W.Frag} {H : Hp} : ∀ {vs : List V} {xs : List α}, Paired (fun v x => rel K H v x) vs xs → DpAll K H vs (xs.map Dat.toD)
  | _, _, .nil => .nil
  | _, _, .cons r t => .cons (Dat.dp r) (dpAll_of t)
theorem layAll_map {α : Type} [Dat α] : ∀ xs : List α, PyData.canLayAll0 (xs.map Dat.toD) = true
  | [] => canLayAll_nil
  | x :: xs => by
    rw [List.map_cons, canLayAll_cons, Dat.lay, layAll_map xs]
    rfl
theorem depAll_map {α : Type} [Dat α] : ∀ xs : List α, PyData.depthAll (xs.map Dat.toD) ≤ Dat.deep α
  | [] => by rw [List.map_nil, depthAll_nil]; exact Nat.zero_le _
  | x :: xs => by
    rw [List.map_cons, depthAll_cons]
    exact max_le' (Dat.dep x) (depAll_map xs)
theorem eqvAll_map {α : Type} [Dat α] : ∀ xs ys : List α, PyData.eqvAll (xs.map Dat.toD) (ys.map Dat.toD) = true ↔ xs = ys
  | [], [] => by simp [eqvAll_nil]
  | [], _ :: _ => by simp [PyData.eqvAll]
  | _ :: _, [] => by simp [PyData.eqvAll]
  | x :: xs, y :: ys => by
    rw [List.map_cons, List.map_cons, eqvAll_cons, Bool.and_eq_true, Dat.eqv, eqvAll_map xs ys, List.cons.injEq]
instance {α : Type} [Dat α] : Dat (List α) where
  toD := fun xs => .list (xs.map Dat.toD)
  dp := fun h => by
    obtain ⟨p, vs, rfl, h2, h3⟩ := h
    exact .lst (.of h2) (dpAll_of h3)
  lay := fun xs => by rw [canLay_list]; exact layAll_map xs
  deep := Dat.deep α + 1
  dep := fun xs => by
    rw [depth_list]
    exact Nat.succ_le_succ (depAll_map xs)
  eqv := fun xs ys => by
    rw [eqv_list]
    exact eqvAll_map xs ys
mutual
theorem dpm {K : PySem.W.Frag} {H H' : Hp} (e : Ex H H') : ∀ (d : PyData) (v : V), Dp K H v d → Dp K H' v d
  | .none, _, h => by
    cases h
    exact .non
  | .bool b, _, h => by
    cases h
    exact .bl _
  | .int i, _, h => by
    cases h
    exact .int _
  | .str x, _, h => by
    cases h
    exact .str _
  | .list ds, _, h => by
    cases h with
    | lst h1 h2 => exact .lst (Evl.ex_l e h1) (dpmA e ds _ h2)
  | .tuple ds, _, h => by
    cases h with
    | tup h1 h2 => exact .tup (Evl.ex_t e h1) (dpmA e ds _ h2)
  | .dict _, _, h => by cases h
theorem dpmA {K : PySem.W.Frag} {H H' : Hp} (e : Ex H H') : ∀ (ds : List PyData) (vs : List V), DpAll K H vs ds → DpAll K H' vs ds
  | [], _, h => by
    cases h
    exact .nil
  | d :: ds, _, h => by
    cases h with
    | cons h1 h2 => exact .cons (dpm e d _ h1) (dpmA e ds _ h2)
end
theorem Dp.mono' {K : PySem.W.Frag} {H H' : Hp} (e : Ex H H') (d : PyData) (v : V) (h : Dp K H v d) : Dp K H' v d := dpm e d v h
variable [Tb]
section
variable {X : Cx} {ρ : List SV} {pos : Pos} {e a b c d : Expr}
/-- == and != of data -/
theorem cq_eqD {α : Type} [Dat α] [DecidableEq α] {oa ob : Option α} (hu : X.A.units + 64 < cLine) (ha : Ep X ρ a oa) (hb : Ep X ρ b ob) (hd : Dat.deep α ≤ 64 := by decide) : Cq X ρ .Eq a b (oeq oa ob) := cq_mk (op_eqD hu) (nomark _) (fun x y z W v u Q hf h1 h2 k => by
  cases hf
  exact ⟨_, _, Dp.mono' W.e _ _ (Dat.dp h1), Dp.mono' W.e _ _ (Dat.dp h2), shaped_of hd x, shaped_of hd y, k _ W (.refl W) (by rw [eqv_dec] <;> rfl)⟩) ha hb
theorem cq_neD {α : Type} [Dat α] [DecidableEq α] {oa ob : Option α} (hu : X.A.units + 64 < cLine) (ha : Ep X ρ a oa) (hb : Ep X ρ b ob) (hd : Dat.deep α ≤ 64 := by decide) : Cq X ρ .NotEq a b (one_ oa ob) := cq_mk (op_neD hu) (nomark _) (fun x y z W v u Q hf h1 h2 k => by
  cases hf
  exact ⟨_, _, Dp.mono' W.e _ _ (Dat.dp h1), Dp.mono' W.e _ _ (Dat.dp h2), shaped_of hd x, shaped_of hd y, k _ W (.refl W) (by rw [eqv_dec] <;> rfl)⟩) ha hb
/-- x in list, x not in list -/
def oin {α : Type} [DecidableEq α] (x : Option α) (l : Option (List α)) : Option Bool := bind2 x l fun a xs => some (decide (a ∈ xs))
def onin {α : Type} [DecidableEq α] (x : Option α) (l : Option (List α)) : Option Bool := bind2 x l fun a xs => some (!decide (a ∈ xs))
theorem any_eqv {α : Type} [Dat α] [DecidableEq α] (x : α) : ∀ xs : List α, ((xs.map Dat.toD).any fun z => PyData.eqv z (Dat.toD x)) = decide (x ∈ xs)
  | [] => by simp
  | y :: ys => by
    rw [List.map_cons, List.any_cons, any_eqv x ys, eqv_dec]
    by_cases h : y = x
    · subst h
      simp
    · have h' : ¬ x = y := fun z => h z.symm
      rw [decide_eq_false h, Bool.false_or]
      simp [h']
theorem cq_inX {α : Type} [Dat α] [DecidableEq α] {op : CmpOp} {r : R2} {neg : Bool} {oa : Option α} {ob : Option (List α)} (ho : OpR X (compareOp op) r) (hm : behindInMarks op b = false)
    (hr : ∀ x y H (Q : VK) d ds, Dp X.K H x d → Dp X.K H y (.list ds) → SeqAt.shaped d = true → SeqAt.shaped (.list ds) = true → Q (.bl (if neg then !ds.any fun z => PyData.eqv z d else ds.any fun z => PyData.eqv z d)) H → r x y H Q)
    (ha : Ep X ρ a oa) (hb : Lp X ρ b ob) (hd : Dat.deep α ≤ 63) : Cq X ρ op a b (bind2 oa ob fun a xs => some (if neg then !decide (a ∈ xs) else decide (a ∈ xs))) := by
  have key : ∀ x y, oa = some x → ob = some y → ∀ (We : Wd) (B : Hp) (σ : L2.St) (W : Wd) (Q : VK), SR X.K We B ρ σ W → (∀ W', W.Le W' → Q (.bl (if neg then !decide (x ∈ y) else decide (x ∈ y))) W'.h) → tOp r (RunE X a) (RunE X b) σ W.h Q := by
    intro x y hx hy We B σ W Q S k
    refine ha.run x hx We B σ W _ S fun v W1 l1 r1 => hb.run y hy We B σ W1 _ (S.mono l1) fun p vs W2 l2 hp r2 => ?_
    have r1' := Rep.mono l2.s r1
    refine hr _ _ _ _ _ _ (Dp.mono' W2.e _ _ (Dat.dp r1')) (.lst (.of hp) (dpAll_of (pmono (fun _ _ h => Rep.mono W2.e h) r2))) (shaped_of (Nat.le_trans hd (by decide)) x) ?_ ?_
    · exact shaped_of (α := List α) (Nat.succ_le_succ hd) y
    · rw [any_eqv]
      exact k W2 (l1.trans l2)
  refine ⟨fun pos => .mk fun z hz We B σ W Q S k => ?_, fun pos => .mk fun z hz We B σ W Q S k => ?_⟩
  · obtain ⟨x, y, hx, hy, hf⟩ := bind2_some hz
    cases hf
    exact useE (pe_cmpR ho pe_run pe_run hm) (key x y hx hy We B σ W _ S fun W' l => k _ W' l rfl)
  · obtain ⟨x, y, hx, hy, hf⟩ := bind2_some hz
    cases hf
    exact useT (pt_cmpR ho pe_run pe_run hm) (key x y hx hy We B σ W _ S fun W' l => ⟨_, rfl, k W' l⟩)
theorem cq_in {α : Type} [Dat α] [DecidableEq α] {oa : Option α} {ob : Option (List α)} (hu : X.A.units + 65 < cLine) (ha : Ep X ρ a oa) (hb : Lp X ρ b ob) (hd : Dat.deep α ≤ 63 := by decide) (hm : behindInMarks .In b = false := by rfl) : Cq X ρ .In a b (oin oa ob) :=
  cq_inX (neg := false) (op_inD hu) hm (fun x y H Q d ds h1 h2 h3 h4 q => ⟨d, ds, h1, h2, h3, h4, q⟩) ha hb hd
theorem cq_nin {α : Type} [Dat α] [DecidableEq α] {oa : Option α} {ob : Option (List α)} (hu : X.A.units + 65 < cLine) (ha : Ep X ρ a oa) (hb : Lp X ρ b ob) (hd : Dat.deep α ≤ 63 := by decide) (hm : behindInMarks .NotIn b = false := by rfl) : Cq X ρ .NotIn a b (onin oa ob) :=
  cq_inX (neg := true) (op_notInD hu) hm (fun x y H Q d ds h1 h2 h3 h4 q => ⟨d, ds, h1, h2, h3, h4, q⟩) ha hb hd
/-! built-ins -/
def ob2i (x : Option Bool) : Option Int := x.bind fun b => some (if b then 1 else 0)
theorem ep_intB {o : Option Bool} {p1 : Pos} (hg : Gl X "int") (hm : X.mg "int" = none) (ha : Ep X ρ a o) (hst : NS X a := by intro _; rfl) : Ep X ρ (.Call (.Name "int" p1) [a] [] pos) (ob2i o) := .mk fun z hz We B σ W Q S k => by
  obtain ⟨x, hx, hf⟩ := bind_some hz
  cases hf
  refine useE (pe_callTy call_int1 hg hm (by decide +kernel) (pa_cons pe_run pa_nil (hst _)) (he := hst _)) (ha.run x hx We B σ W _ S fun v W1 l1 r1 => .inr ⟨x, by rw [r1], k _ W1 l1 rfl⟩)
def oabs (x : Option Int) : Option Int := x.bind fun i => some (if i < 0 then -i else i)
theorem ep_abs {o : Option Int} {p1 : Pos} (hg : Gl X "abs") (hm : X.mg "abs" = none) (ha : Ep X ρ a o) (hst : NS X a := by intro _; rfl) : Ep X ρ (.Call (.Name "abs" p1) [a] [] pos) (oabs o) := .mk fun z hz We B σ W Q S k => by
  obtain ⟨x, hx, hf⟩ := bind_some hz
  cases hf
  refine useE (pe_callB call_abs hg hm (by decide +kernel) (pa_cons pe_run pa_nil (hst _)) (he := hst _)) (ha.run x hx We B σ W _ S fun v W1 l1 r1 => ⟨x, by rw [r1], k _ W1 l1 rfl⟩)
def omax2 (x y : Option Int) : Option Int := bind2 x y fun i j => some (if j > i then j else i)
def omin2 (x y : Option Int) : Option Int := bind2 x y fun i j => some (if j < i then j else i)
theorem ep_max2 {oa ob : Option Int} {p1 : Pos} (hc : X.calm = true) (hg : Gl X "max") (hm : X.mg "max" = none) (ha : Ep X ρ a oa) (hb : Ep X ρ b ob) (na : NS X a := by intro _; rfl) (nb : NS X b := by intro _; rfl) (hpl : (backTo pos (starEach [b] X.env)).any (·.1) = false := by rfl) :
    Ep X ρ (.Call (.Name "max" p1) [a, b] [] pos) (omax2 oa ob) := .mk fun z hz We B σ W Q S k => by
  obtain ⟨x, y, hx, hy, hf⟩ := bind2_some hz
  cases hf
  refine useE (pe_callB (call_max2 hc) hg hm (by decide +kernel) (pa_cons pe_run (pa_cons pe_run pa_nil (nb _)) (na _)) (he := na _) (hpl := hpl)) (ha.run x hx We B σ W _ S fun v W1 l1 r1 => hb.run y hy We B σ W1 _ (S.mono l1) fun u W2 l2 r2 => ⟨x, y, by rw [r1, r2], k _ W2 (l1.trans l2) rfl⟩)
theorem ep_min2 {oa ob : Option Int} {p1 : Pos} (hc : X.calm = true) (hg : Gl X "min") (hm : X.mg "min" = none) (ha : Ep X ρ a oa) (hb : Ep X ρ b ob) (na : NS X a := by intro _; rfl) (nb : NS X b := by intro _; rfl) (hpl : (backTo pos (starEach [b] X.env)).any (·.1) = false := by rfl) :
    Ep X ρ (.Call (.Name "min" p1) [a, b] [] pos) (omin2 oa ob) := .mk fun z hz We B σ W Q S k => by
  obtain ⟨x, y, hx, hy, hf⟩ := bind2_some hz
  cases hf
  refine useE (pe_callB (call_min2 hc) hg hm (by decide +kernel) (pa_cons pe_run (pa_cons pe_run pa_nil (nb _)) (na _)) (he := na _) (hpl := hpl)) (ha.run x hx We B σ W _ S fun v W1 l1 r1 => hb.run y hy We B σ W1 _ (S.mono l1) fun u W2 l2 r2 => ⟨x, y, by rw [r1, r2], k _ W2 (l1.trans l2) rfl⟩)
/-- list(a list) -/
theorem ep_list {α : Type} [Rep α] {o : Option (List α)} {p1 : Pos} (hg : Gl X "list") (hm : X.mg "list" = none) (ha : Lp X ρ a o) (hst : NS X a := by intro _; rfl) : EpF X ρ (.Call (.Name "list" p1) [a] [] pos) o := .mk fun z hz We B σ W Q S k => by
  refine useE (pe_callTy call_list_of hg hm (by decide +kernel) (pa_cons pe_run pa_nil (hst _)) (he := hst _)) (ha.run z hz We B σ W _ S fun p vs W1 l1 hp r1 => ⟨p, vs, rfl, .inl (.of hp), fun n hn => ?_⟩)
  have l2 := Wd.Le.new W1 (.lst vs) hn
  exact k n vs (W1.new n (.lst vs) hn) (l1.trans l2) (l1.h.back (fre_of hn)) upd_same (pmono (fun _ _ h => Rep.mono l2.s h) r1)
/-- all(a list of bools) -/
def oall (x : Option (List Bool)) : Option Bool := x.bind fun l => some (l.all id)
theorem bools_of {K : PySem.W.Frag} {H : Hp} : ∀ {vs : List V} {bs : List Bool}, Paired (fun v x => rel K H v x) vs bs → vs = bs.map V.bl
  | _, _, .nil => rfl
  | _, _, .cons r t => by
    cases r
    rw [bools_of t]
    rfl
theorem ints_of {K : PySem.W.Frag} {H : Hp} : ∀ {vs : List V} {bs : List Int}, Paired (fun v x => rel K H v x) vs bs → vs = bs.map V.int
  | _, _, .nil => rfl
  | _, _, .cons r t => by
    cases r
    rw [ints_of t]
    rfl
theorem ep_all {o : Option (List Bool)} {p1 : Pos} (hc : X.calm = true) (hg : Gl X "all") (hm : X.mg "all" = none) (ha : Lp X ρ a o) (hst : NS X a := by intro _; rfl) : Ep X ρ (.Call (.Name "all" p1) [a] [] pos) (oall o) := .mk fun z hz We B σ W Q S k => by
  obtain ⟨x, hx, hf⟩ := bind_some hz
  cases hf
  refine useE (pe_callB (cr_all hc) hg hm (by decide +kernel) (pa_cons pe_run pa_nil (hst _)) (he := hst _)) (ha.run x hx We B σ W _ S fun p vs W1 l1 hp r1 => ⟨p, x, rfl, .of ?_, k _ W1 l1 rfl⟩)
  rw [hp, bools_of r1]
/-! the script -/
def oslen (x : Option Script) : Option Int := x.bind fun s => some s.ns.length
def osidx (x : Option Script) (i : Option Int) : Option Int := bind2 x i fun s j => atI s.ns j
theorem ep_slen {o : Option Script} {p1 : Pos} (hg : Gl X "len") (hm : X.mg "len" = none) (ha : Ep X ρ a o) (hst : NS X a := by intro _; rfl) : Ep X ρ (.Call (.Name "len" p1) [a] [] pos) (oslen o) := .mk fun z hz We B σ W Q S k => by
  obtain ⟨x, hx, hf⟩ := bind_some hz
  cases hf
  refine useE (pe_callB call_len_seq hg hm PySem.boot_len (pa_cons pe_run pa_nil (hst _)) (he := hst _)) (ha.run x hx We B σ W _ S fun v W1 l1 ⟨p, e1, e2⟩ => ⟨p, _, by rw [e1], .inl (Evl.ex_l W1.e e2), ?_⟩)
  rw [List.length_map]
  exact k _ W1 l1 rfl
theorem ep_sidx {oa : Option Script} {ob : Option Int} (ha : Ep X ρ a oa) (hb : Ep X ρ b ob) (hs : PlainIx b := by exact fun _ _ => rfl) : Ep X ρ (.Subscript a b pos) (osidx oa ob) :=
  ep_t2 (pe_ix ix_list pe_run pe_run hs) ha hb fun x y z W v u Q hf ⟨p, e1, e2⟩ h2 k => by
    cases h2
    refine ⟨p, _, y, V.int z, e1, rfl, Evl.ex_l W.e e2, ?_, k _ W (.refl W) rfl⟩
    have h3 := atI_map V.int x.ns y
    rw [hf] at h3
    exact h3
end
theorem _root_.L2.Room.units65 {k : Nat} {A : Around} (r : Room k A) : A.units + 65 < cLine := by
  have := r.un
  omega
section
variable {X : Cx} {ρ : List SV} {pos : Pos} {a : Expr} {rest : List Stmt} {γ : Type} {post : γ → List SV}
/-- return of a list that was changed till now -/
theorem bs_retM {xx : Nat → Hp → Prop} {α : Type} [Rep α] {m : ML α} {x : Str} {p1 : Pos} {fr : Bool} (i : Nat) (hi : ρ[i]? = some (.mut m) := by rfl) (hN : X.N[i]? = some x := by rfl) (hv : Vis X.env.scope x := by first | exact Or.inl rfl | exact Or.inr (Or.inl rfl) | exact Or.inr (Or.inr rfl)) (hd : (x == ("__debug__" : Str)) = false := by decide)
    (hcd : (x == ("__classdict__" : Str)) = false := by decide) : Bs X xx ρ (.Return (some (.Name x p1)) pos :: rest) (γ := γ) fr (some (.ret m.xs)) post := .mk fun out ho We B σ W D S k => by
  cases ho
  obtain ⟨l, vs, W', e1, n1, eh, hp, r, S'⟩ := S.freeze hi
  rw [← eh]
  exact useSs (pss_cons (ps_ret (pe_var hN hv hd hcd)) pss_run) ⟨_, e1, k _ W' S'.le S'.b ⟨l, vs, rfl, hp, r⟩ fun _ => ⟨l, rfl, n1⟩⟩
end
/-! ### defs known by name -/
def Has (P : Program) (w : World) (K : PySem.W.Frag) (mg : Str → Option Value) (base : Heap) (k : Nat) (x : Str) (ps : List Str) (sp : Sp) : Prop :=
  ∃ (f : Addr) (fd : FuncData), FnOk P w K mg base CX0 k f fd ps sp ∧ mg x = some (.ref f) ∧ PySem.W.keepIn K (.ref f) = true ∧ Binds K fd ps []
section
variable {X : Cx} {ρ : List SV} {pos : Pos} {a : Expr} {es : List Expr}
theorem ep_has {β : Type} [Rep β] {fr : Bool} {C : List SV → β → Prop} {k k' : Nat} {ps : List Str} {x : Str} {p1 : Pos} {o : Option (List SV)} {ob : Option β}
    (F : Has X.prog X.w X.K X.mg X.base k x ps (spOf X.K fr C)) (hr : Room k' X.A) (hk : k ≤ k') (ha : Ag X ρ (a :: es) o) (hC : ∀ r, ob = some r → ∃ l, o = some l ∧ C l r) (hg : Gl X x := by rfl) (hst : NS X a := by intro _; rfl) (hd : (x == ("__debug__" : Str)) = false := by decide)
    (hpl : (backTo pos (starEach es X.env)).any (·.1) = false := by rfl) : Ep X ρ (.Call (.Name x p1) (a :: es) [] pos) ob := by
  obtain ⟨f, fd, F, hm, hkp, hb⟩ := F
  exact ep_call F (hr.mono hk) hg hm hkp hb ha hC hst hd hpl
theorem ep_hasF {β : Type} [Rep β] {C : List SV → List β → Prop} {k k' : Nat} {ps : List Str} {x : Str} {p1 : Pos} {o : Option (List SV)} {ob : Option (List β)}
    (F : Has X.prog X.w X.K X.mg X.base k x ps (spOf X.K true C)) (hr : Room k' X.A) (hk : k ≤ k') (ha : Ag X ρ (a :: es) o) (hC : ∀ r, ob = some r → ∃ l, o = some l ∧ C l r) (hg : Gl X x := by rfl) (hst : NS X a := by intro _; rfl) (hd : (x == ("__debug__" : Str)) = false := by decide)
    (hpl : (backTo pos (starEach es X.env)).any (·.1) = false := by rfl) : EpF X ρ (.Call (.Name x p1) (a :: es) [] pos) ob := by
  obtain ⟨f, fd, F, hm, hkp, hb⟩ := F
  exact ep_callF F (hr.mono hk) hg hm hkp hb ha hC hst hd hpl
end
end T
/-! typed layer: defs that raise, caught; the head's facts with own ones -/
namespace T
variable [Tb]
open PySem PySem.Spec PyProof.Rows L2
open Evl (Ex)
open Rep (rel)

/-! ### defs that may raise: inr c: the exception of number c -/
def spX (K : PySem.W.Frag) (fr : Bool) {β : Type} [Rep β] (cls : Nat → Addr) (C : List SV → β ⊕ Nat → Prop) : Sp := fun vs H Q E =>
  ∃ (W : Wd) (avs : List SV) (o : β ⊕ Nat), H = W.h ∧ AR K W vs avs ∧ (∀ x ∈ avs, ¬ x.isMut) ∧ C avs o ∧
    (∀ r, o = .inl r → ∀ v W', W.Le W' → rel K W'.s v r → (fr = true → ∃ p, v = .ref p ∧ fre W.h p) → Q v W'.h) ∧
    (∀ c, o = .inr c → ∀ W', W.Le W' → E (.ref (cls c)) none W'.h)
def retx {β γ : Type} (o : Option (Out β γ)) : Option (β ⊕ Nat) := match o with
  | some (.ret b) => some (.inl b)
  | some (.exc c) => some (.inr c)
  | _ => none
section
variable {P : Program} {w : World} {K : PySem.W.Frag} {mg : Str → Option Value} {base : Heap} {name qual : Str} {params : Arguments} {body : List Stmt} {scope : Scope} {f : Addr} {fd : FuncData} {N ps : List Str} {k : Nat} {β : Type} [Rep β] {fr : Bool} {C : List SV → β ⊕ Nat → Prop} {cls : Nat → Addr}
abbrev cxX (P : Program) (w : World) (K : PySem.W.Frag) (mg : Str → Option Value) (base : Heap) (N : List Str) (qual : Str) (scope : Scope) (f : Addr) (cd : Value) (A : Around) (outer : List Env) (s : Shared) (H : Hp) (E : XK) : Cx := cxOf (L2.CX P w) P w K mg base N qual scope f cd A outer s H E
abbrev xxOf (cls : Nat → Addr) (E : XK) : Nat → Hp → Prop := fun c H => E (.ref (cls c)) none H
theorem fn_okX {γ : Type} {post : γ → List SV} (F : FunD K name qual params body scope [] [] f fd) (S : FnScope N ps scope) (hl : ps.length ≤ N.length) (hC : ∀ l r, C l r → l.length = ps.length)
    (h : ∀ (cdv : Value) (A : Around) (outer : List Env) (s : Shared) (H : Hp) (E : XK), Room k (A.deeper (envOfC qual scope s.heap.objs.size f cdv)) → ∀ l r, C l r →
      ∃ m : Option (Out β γ), retx m = some r ∧ Bs (cxX P w K mg base N qual scope f cdv A outer s H E) (xxOf cls E) (l ++ List.replicate (N.length - l.length) .any) body fr m post) :
    FnOk P w K mg base (L2.CX P w) (k + 1) f fd ps (spX K fr cls C) := by
  refine F.ok S (fun vs H Q E ⟨W, avs, r, _, pr, _, c, _⟩ => pr.len.trans (hC _ _ c)) (fun cdv A outer s H vs Q E hr ⟨W, avs, r, eh, pr, nm, c, q1, q2⟩ => ?_)
  subst eh
  obtain ⟨m, hm, hb⟩ := h cdv A outer s W.h E hr avs r c
  refine ⟨RunSs (cxX P w K mg base N qual scope f cdv A outer s W.h E) body, pss_run, ?_⟩
  have st := sr_start (N := N) (K := K) (by rw [hC _ _ c]; exact hl) pr nm
  unfold retx at hm
  split at hm
  · cases hm
    exact hb.run _ rfl W W.s _ W _ st fun v W' le _ rr hf => q1 _ rfl v W' le rr hf
  · cases hm
    exact hb.run _ rfl W W.s _ W _ st fun W' le => q2 _ rfl W' le
  · cases hm
theorem fn_okX3 {α α' α'' γ : Type} [Rep α] [Rep α'] [Rep α''] {m : α → α' → α'' → Option (Out β γ)} {post : γ → List SV} (F : FunD K name qual params body scope [] [] f fd) (S : FnScope N ps scope) (hl : ps.length ≤ N.length) (h1 : ps.length = 3)
    (h : ∀ (cdv : Value) (A : Around) (outer : List Env) (s : Shared) (H : Hp) (E : XK), Room k (A.deeper (envOfC qual scope s.heap.objs.size f cdv)) → ∀ a b c, Bs (cxX P w K mg base N qual scope f cdv A outer s H E) (xxOf cls E) ([.imm a, .imm b, .imm c] ++ List.replicate (N.length - 3) .any) body fr (m a b c) post) :
    FnOk P w K mg base (L2.CX P w) (k + 1) f fd ps (spX K fr cls (C3 fun a b c => retx (m a b c))) :=
  fn_okX F S hl (fun l r ⟨a, b, c, e, _⟩ => by rw [e, h1]; rfl) fun cdv A outer s H E hr l r ⟨a, b, c, e, hm⟩ => by
    subst e
    exact ⟨m a b c, hm, h cdv A outer s H E hr a b c⟩
theorem fn_okX4 {α α' α'' α3 γ : Type} [Rep α] [Rep α'] [Rep α''] [Rep α3] {m : α → α' → α'' → α3 → Option (Out β γ)} {post : γ → List SV} (F : FunD K name qual params body scope [] [] f fd) (S : FnScope N ps scope) (hl : ps.length ≤ N.length) (h1 : ps.length = 4)
    (h : ∀ (cdv : Value) (A : Around) (outer : List Env) (s : Shared) (H : Hp) (E : XK), Room k (A.deeper (envOfC qual scope s.heap.objs.size f cdv)) → ∀ a b c d, Bs (cxX P w K mg base N qual scope f cdv A outer s H E) (xxOf cls E) ([.imm a, .imm b, .imm c, .imm d] ++ List.replicate (N.length - 4) .any) body fr (m a b c d) post) :
    FnOk P w K mg base (L2.CX P w) (k + 1) f fd ps (spX K fr cls (C4 fun a b c d => retx (m a b c d))) :=
  fn_okX F S hl (fun l r ⟨a, b, c, d, e, _⟩ => by rw [e, h1]; rfl) fun cdv A outer s H E hr l r ⟨a, b, c, d, e, hm⟩ => by
    subst e
    exact ⟨m a b c d, hm, h cdv A outer s H E hr a b c d⟩
end
/-- what the top says of an exception class of the program (under ValueError) that is raised -/
structure ExA (K : PySem.W.Frag) (mg : Str → Option Value) (x : Str) (C : Addr) : Prop where
  g : mg x = some (.ref C)
  xP : PySem.W.excIn K C He.veBase "ValueError.__new__" = true
  kP : PySem.W.keepIn K (.ref C) = true
  bP : PySem.W.subIn K (.ref C) (.type "BaseException") = some true
  tP : PySem.W.typeIn K (.ref C) = some (.type "type")
section
variable {X : Cx} {ρ : List SV} {pos : Pos} {rest : List Stmt} {xx : Nat → Hp → Prop} {β γ : Type} [Rep β] {fr : Bool} {post : γ → List SV}
/-- raise X('..') -/
theorem bs_raise {x m : Str} {j : Nat} {p p2 p3 : Pos} {C : Addr} {E : XK} (c : Nat) (A : ExA X.K X.mg x C) (tk : Takes X (fun cls d _ H => E cls d H)) (hx : ∀ H, xx c H → E (.ref C) none H) (hc : X.calm = true) (hg : Gl X x := by rfl) (hdb : (x == ("__debug__" : Str)) = false := by decide) :
    Bs X xx ρ (.Raise (some (.Call (.Name x p) [.Constant (.str m) j p2] [] p3)) none pos :: rest) (β := β) fr (some (.exc c)) post := .mk fun out ho We B σ W D S k => by
  cases ho
  refine useSs (pss_cons (ps_raise hc tk (pmk_own PySem.F.excBase_ValueError A.xP A.g A.kP (raises_own A.bP A.tP) hg hdb)) pss_run) ?_
  exact hx _ (k W S.le)
/-- an exception that a suite holds -/
structure ExcV where
  a : Addr
end
instance : Rep ExcV := ⟨fun _ _ v x => v = .ref x.a, fun _ h => h⟩
section
variable {X : Cx} {ρ : List SV} {pos : Pos} {e : Expr} {rest : List Stmt} {xx : Nat → Hp → Prop} {β γ : Type} [Rep β] {fr : Bool} {post : γ → List SV}
/-- isinstance(e, C) in the suite that holds e, C a name of the module -/
theorem ep_isE {a D C : Addr} {oe : Obj} {pn : List (Addr × Obj)} {x y : Str} {p1 p2 p3 : Pos} {b : Bool} (i : Nat) (EC : ExcC X.K D) (hz : Zc (.ref D) none oe) (hf : ∃ vs, oe.data = .fields vs) (hm : X.mg "isinstance" = none) (hC : X.mg y = some (.ref C)) (hk : PySem.W.kitOne X.K (.ref D) (.ref C) = some b)
    (hρ : ρ[i]? = some (.imm (ExcV.mk a)) := by rfl) (hN : X.N[i]? = some x := by rfl) (hv : Vis X.env.scope x := by first | exact Or.inl rfl | exact Or.inr (Or.inl rfl) | exact Or.inr (Or.inr rfl)) (hd : (x == ("__debug__" : Str)) = false := by decide)
    (hcd : (x == ("__classdict__" : Str)) = false := by decide) (hg : Gl X "isinstance" := by rfl) (hgy : Gl X y := by rfl) (hdy : (y == ("__debug__" : Str)) = false := by decide) (hpl : (backTo pos (starEach [.Name y p3] X.env)).any (·.1) = false := by rfl) :
    Ep (X.suite a ((a, oe) :: pn)) ρ (.Call (.Name "isinstance" p1) [.Name x p2, .Name y p3] [] pos) (some b) := .mk fun z hz' We B σ W Q S k => by
  cases hz'
  obtain ⟨v, hv1, hv2⟩ := S.imm hρ
  refine useE (pe_callB (call_isE EC hz hf) hg hm (by decide +kernel) (pa_cons (pe_var (X := X.suite a ((a, oe) :: pn)) hN hv hd hcd) (pa_cons (pe_glob (v := .ref C) (X := X.suite a ((a, oe) :: pn)) hgy hC rfl hdy) pa_nil rfl) rfl) (he := rfl) (hpl := hpl)) ?_
  refine ⟨v, hv1, .ref C, .ref C, b, by rw [show v = V.ref a from hv2], fun u r => r, hk, k _ W (.refl W) rfl⟩
/-- .. a built-in class -/
theorem ep_isT {a D : Addr} {oe : Obj} {pn : List (Addr × Obj)} {x y : Str} {t : String} {p1 p2 p3 : Pos} {b : Bool} (i : Nat) (EC : ExcC X.K D) (hz : Zc (.ref D) none oe) (hf : ∃ vs, oe.data = .fields vs) (hm : X.mg "isinstance" = none) (hC : X.mg y = none) (hB : bootBuiltins y = some (.type t)) (hk : PySem.W.kitOne X.K (.ref D) (.type t) = some b)
    (hρ : ρ[i]? = some (.imm (ExcV.mk a)) := by rfl) (hN : X.N[i]? = some x := by rfl) (hv : Vis X.env.scope x := by first | exact Or.inl rfl | exact Or.inr (Or.inl rfl) | exact Or.inr (Or.inr rfl)) (hd : (x == ("__debug__" : Str)) = false := by decide)
    (hcd : (x == ("__classdict__" : Str)) = false := by decide) (hg : Gl X "isinstance" := by rfl) (hgy : Gl X y := by rfl) (hnn : y ≠ "__name__" := by decide) (hdy : (y == ("__debug__" : Str)) = false := by decide) (hpl : (backTo pos (starEach [.Name y p3] X.env)).any (·.1) = false := by rfl) :
    Ep (X.suite a ((a, oe) :: pn)) ρ (.Call (.Name "isinstance" p1) [.Name x p2, .Name y p3] [] pos) (some b) := .mk fun z hz' We B σ W Q S k => by
  cases hz'
  obtain ⟨v, hv1, hv2⟩ := S.imm hρ
  refine useE (pe_callB (call_isE EC hz hf) hg hm (by decide +kernel) (pa_cons (pe_var (X := X.suite a ((a, oe) :: pn)) hN hv hd hcd) (pa_cons (pe_bltn (v := .ty t) (X := X.suite a ((a, oe) :: pn)) hgy hC hB rfl hnn hdy) pa_nil rfl) rfl) (he := rfl) (hpl := hpl)) ?_
  refine ⟨v, hv1, .ty t, .type t, b, by rw [show v = V.ref a from hv2], fun u r => r, hk, k _ W (.refl W) rfl⟩
def retE {β γ : Type} : Option (Out β γ) → Option (Out β γ)
  | some (.ret b) => some (.ret b)
  | some (.exc c) => some (.exc c)
  | _ => none
def tryO {β β' γ : Type} (o : Option (β' ⊕ Nat)) (mr : Option (Out β γ)) (ms : Nat → Option (Out β γ)) : Option (Out β γ) := o.bind fun z => match z with
  | .inl _ => mr
  | .inr c => retE (ms c)
/-- try: f(..) except FE as n: suite that hands back -/
theorem bs_try {β' : Type} [Rep β'] {fr' : Bool} {C : List SV → β' ⊕ Nat → Prop} {cls : Nat → Addr} {k : Nat} {f FE : Addr} {fd : FuncData} {ps : List Str} {x y n : Str} {p1 p2 p3 np pos' : Pos} {a : Expr} {es : List Expr} {b₀ : Stmt} {suite : List Stmt} {oa : Option (List SV)} {o : Option (β' ⊕ Nat)} {ms : Nat → Option (Out β γ)} {mr : Option (Out β γ)} (i : Nat)
    (F : FnOk X.prog X.w X.K X.mg X.base (L2.CX X.prog X.w) k f fd ps (spX X.K fr' cls C)) (hr : Room k X.A) (hm : X.mg x = some (.ref f)) (hk : PySem.W.keepIn X.K (.ref f) = true) (hb : Binds X.K fd ps [])
    (ha : ∀ pn xe, Ag (X.tr pn xe) ρ (a :: es) oa) (hC : ∀ r, o = some r → ∃ l, oa = some l ∧ C l r) (gFE : X.mg y = some (.ref FE)) (hcatch : ∀ c, o = some (.inr c) → PySem.W.exmOne X.K (.ref (cls c)) (.ref FE) = some true) (nd : X.N.Nodup)
    (hsu : ∀ c (a' : Addr) (oe : Obj) (pn : List (Addr × Obj)), Zc (.ref (cls c)) none oe → (∃ vs, oe.data = .fields vs) → Bs (X.suite a' ((a', oe) :: pn)) xx (ρ.set i (.imm (ExcV.mk a'))) (b₀ :: suite) fr (ms c) post) (hrest : Bs X xx ρ rest fr mr post)
    (hi : X.N[i]? = some n := by rfl) (hln : X.env.kindOf n = some .local := by rfl) (hs : X.stack = X.env :: X.outer := by rfl) (hf : X.env.frame = some X.env.locals := by rfl) (hg : Gl X x := by rfl) (hgy : Gl X y := by rfl)
    (hst : NS X a := by intro _; rfl) (hd : (x == ("__debug__" : Str)) = false := by decide) (hdy : (y == ("__debug__" : Str)) = false := by decide) (hpl : (backTo p2 (starEach es X.env)).any (·.1) = false := by rfl) (hsw : swapsWith (.Call (.Name x p1) (a :: es) [] p2) none p3.line X.env = pure false := by rfl) :
    Bs X xx ρ (.Try [.Expr (.Call (.Name x p1) (a :: es) [] p2) p3] [.ExceptHandler (some (.Name y np)) (some n) (b₀ :: suite) pos'] [] [] pos :: rest) fr (tryO o mr ms) post := .mk fun out ho We B σ W D S k' => by
  obtain ⟨z, hz, hf'⟩ := bind_some ho
  obtain ⟨l, hl, hc⟩ := hC z hz
  refine useSs (pss_cons (ps_try_as (c := .ref FE) (tb := fun WW => tDrop (tCallS (spX X.K fr' cls C) (WE WW) (fun σ H Q => ∀ pn xe, RunA (X.tr pn xe) (a :: es) σ H Q)))
    (ts := fun a' cls' d' => fun D σ H => ∀ oe pn, Zc cls' d' oe → (∃ vs, oe.data = .fields vs) → RunSs (X.suite a' ((a', oe) :: pn)) (b₀ :: suite) D σ H) (i := i) (Wout := fun _ _ _ _ => False) hs hf nd hi hln ⟨hgy, hdy, .inl gFE⟩ takes0
    (fun WW pn xe tk hp => pss_one (ps_expr (pe_callS (X := X.tr pn xe) F hr hg hm hk hb (fun σ => passAt tk σ) ⟨fun pos pins s σ H Q I h => h pn xe pos pins s I⟩ hd (hst _) hpl) hsw))
    (fun a' oe cls' d' pn z1 z2 => ⟨fun pins s σ H D I h => h oe pn z1 z2 pins s I⟩)) pss_run) ?_
  intro pn xe
  obtain ⟨nm, h2⟩ := (ha pn xe).run l hl
  refine h2 We B σ W _ S fun vs W1 l1 pr => ?_
  have S1 := S.mono l1
  refine ⟨W1, l, z, rfl, pr, nm, hc, fun r er v W2 l2 r2 _ => ?_, fun c er W2 l2 => ?_⟩
  · subst er
    exact hrest.run out hf' We B σ W2 D (S1.mono l2) k'
  · subst er
    refine ⟨true, hcatch c hz, fun _ a' na oe pn' z1 z2 => ?_, fun q => by cases q⟩
    have hf' : retE (ms c) = some out := hf'
    have S3 : SR X.K We B (ρ.set i (.imm (ExcV.mk a'))) (σ.set i (some (.ref a'))) W2 := (S1.mono l2).set (.refl W2) rfl
    cases hm' : ms c with
    | none =>
      rw [hm'] at hf'
      cases hf'
    | some o1 =>
      rw [hm'] at hf'
      have hb' := hsu c a' oe pn' z1 z2
      rw [hm'] at hb'
      cases o1 with
      | go g => cases hf'
      | ret b =>
        cases hf'
        exact hb'.run _ rfl We B _ W2 _ S3 k'
      | cnt g => cases hf'
      | exc c' =>
        cases hf'
        exact hb'.run _ rfl We B _ W2 _ S3 k'
end
end T
/-! ### the head's facts and own ones -/
namespace He
open PySem PySem.Spec PyProof.Rows L2
def obsY (fa : List Fa) (fn : List DefD) (xb : PySem.W.Frag → Bool) (K : PySem.W.Frag) : AlD := (((fa.all fun f => f.ok K) && fn.all fun d => d.ok K) && xb K, fn.map fun d => fnW K d.at_)
def SaysY (fa : List Fa) (fn : List DefD) (xb : PySem.W.Frag → Bool) (K : PySem.W.Frag) : Prop := obsY fa fn xb K = valD fn
def obsYG (n : Nat) (fa : List Fa) (fn : List DefD) (xb : PySem.W.Frag → Bool) (g : Addr → Option Obj) : AlD := obsY fa fn xb (frG g (asD g n))
def hookY (n : Nat) (fa : List Fa) (fn : List DefD) (xb : PySem.W.Frag → Bool) : PySem.W.Hook where
  α := AlD
  obs := fun s => obsYG n fa fn xb s.heap.get?
  val := fun _ => valD fn
  says := fun _ h => ∃ K : PySem.W.Frag, K.In h ∧ SaysY fa fn xb K
  of := fun _ _ e => ⟨_, frG_in, e⟩
  keeps := fun _ _ _ ⟨K, hK, c⟩ k => ⟨K, PySem.W.Frag.In.keeps hK k, c⟩
theorem obsYG_eq {n : Nat} {fa : List Fa} {fn : List DefD} {xb : PySem.W.Frag → Bool} {g : Addr → Option Obj} {s : Shared} (h : ∀ a, g a = s.heap.get? a) : obsYG n fa fn xb g = (hookY n fa fn xb).obs s := by
  have e : g = s.heap.get? := funext h
  rw [e] <;> rfl
theorem SaysY.both {fa : List Fa} {fn : List DefD} {xb : PySem.W.Frag → Bool} {K : PySem.W.Frag} (c : SaysY fa fn xb K) : SaysD fa fn K ∧ xb K = true := by
  have c1 : (((fa.all fun f => f.ok K) && fn.all fun d => d.ok K) && xb K) = true := congrArg (fun z : AlD => z.1) c
  have c2 : fn.map (fun d => fnW K d.at_) = fn.map DefD.val := congrArg (fun z : AlD => z.2) c
  obtain ⟨h1, h2⟩ := ba c1
  refine ⟨?_, h2⟩
  show (((fa.all fun f => f.ok K) && fn.all fun d => d.ok K), fn.map fun d => fnW K d.at_) = (true, fn.map DefD.val)
  rw [h1, c2]
/-- what isinstance asks of the class at D -/
def excC (K : PySem.W.Frag) (D : Addr) : Bool :=
  decide (PySem.W.findIn K (.ref D) "__getattribute__" = some (some (.builtin "BaseException.__getattribute__"))) && (decide (PySem.W.findIn K (.ref D) "__getattr__" = some none) && (decide (PySem.W.subIn K (.ref D) (.type "BaseException") = some true) && (PySem.W.hasDictIn K D &&
  (decide (PySem.W.findIn K (.ref D) "__class__" = some (some (.builtin "object.__class__"))) && (decide (PySem.W.specialIn K (.builtin "object.__class__") "__get__" = some (some (.builtin "getset_descriptor.__get__"))) && (decide (PySem.W.takesIn K (.builtin "object.__class__") = some true) && decide (PySem.W.mroIn K D (.type "object") = some true)))))))
theorem excC_ok {K : PySem.W.Frag} {D : Addr} (h : excC K D = true) : ExcC K D := by
  obtain ⟨h1, h⟩ := ba h
  obtain ⟨h2, h⟩ := ba h
  obtain ⟨h3, h⟩ := ba h
  obtain ⟨h4, h⟩ := ba h
  obtain ⟨h5, h⟩ := ba h
  obtain ⟨h6, h⟩ := ba h
  obtain ⟨h7, h8⟩ := ba h
  exact ⟨of_decide_eq_true h1, of_decide_eq_true h2, of_decide_eq_true h3, h4, of_decide_eq_true h5, of_decide_eq_true h6, of_decide_eq_true h7, of_decide_eq_true h8⟩
end He
namespace T
open PySem PySem.Spec PyProof.Rows L2
theorem exA_of {K : PySem.W.Frag} {h : Heap} {mg : Str → Option Value} {x : Str} (X : K.In h) (G : h.Ns mainGlobals mg) (c1 : (He.Fa.glo x).ok K = true) (c2 : (He.Fa.exc x).ok K = true) : ExA K mg x (He.ga K x) := by
  obtain ⟨h1, c⟩ := He.ba (show (PySem.W.excIn K (He.ga K x) He.veBase "ValueError.__new__" && (PySem.W.keepIn K (.ref (He.ga K x)) && (decide (PySem.W.subIn K (.ref (He.ga K x)) (.type "BaseException") = some true) && decide (PySem.W.typeIn K (.ref (He.ga K x)) = some (.type "type"))))) = true from c2)
  obtain ⟨h2, c⟩ := He.ba c
  obtain ⟨h3, h4⟩ := He.ba c
  exact ⟨He.glo_ok X G c1, h1, h2, of_decide_eq_true h3, of_decide_eq_true h4⟩
/-- a def of the text, by its name -/
theorem has_of {P : Program} {w : World} {K : PySem.W.Frag} {mg : Str → Option Value} {base : Heap} {k : Nat} {x : Str} {ps : List Str} {sp : Sp} {fd : FuncData} (F : FnOk P w K mg base CX0 k (He.ga K x) fd ps sp) (g : mg x = some (.ref (He.ga K x))) (kp : PySem.W.keepIn K (.ref (He.ga K x)) = true) (b : Binds K fd ps []) : Has P w K mg base k x ps sp := ⟨_, fd, F, g, kp, b⟩
end T
/-! typed layer, sixth part: isinstance, displays walked, lists unpacked, chains -/
namespace T
open PySem PySem.Spec PyProof.Rows L2
open Evl (Ex)
open Rep (rel)

/-- all but the tables -/
def noTb (H : Hp) : Hp := fun p => match H p with
  | some o => if isTb o then none else some o
  | none => none
theorem noTb_some {H : Hp} {p : Addr} {o : HO} (h : noTb H p = some o) : H p = some o ∧ isTb o = false := by
  unfold noTb at h
  cases q : H p with
  | none => rw [q] at h; cases h
  | some u =>
    rw [q] at h
    dsimp only at h
    by_cases z : isTb u = true
    · rw [if_pos z] at h
      cases h
    · rw [if_neg z] at h
      cases h
      exact ⟨rfl, by cases hz : isTb o with
        | true => exact absurd hz z
        | false => rfl⟩
theorem noTb_of {H : Hp} {p : Addr} {o : HO} (h : H p = some o) (n : isTb o = false) : noTb H p = some o := by
  unfold noTb
  rw [h]
  dsimp only
  rw [if_neg (by rw [n]; exact Bool.false_ne_true)]
/-- the law's own promise, from the script -/
theorem law_sp [Tb] {m : Script → Option Bool} (hm : ∀ ns : List Int, ns.length ≤ 63 → m ⟨ns⟩ = some true) {K : PySem.W.Frag} {H : Hp} {a : Addr} {ns : List Int} (hl : ns.length ≤ 63) (hS : SqL K H a (ns.map V.int)) (hT : LamX.Tabs Tb.T H) {E : XK} :
    spOf K false (C1 m) [.ref a] H (fun v _ => v = .bl true) E := by
  have hS' : SqL K (noTb H) a (ns.map V.int) := by
    rcases hS with (h | ⟨o, h⟩) | h
    · exact .inl (.inl (noTb_of h rfl))
    · exact .inl (.inr ⟨o, noTb_of h rfl⟩)
    · exact .inr h
  exact ⟨⟨noTb H, H, fun p o h => (noTb_some h).1, fun p o h => (noTb_some h).2, hT⟩, [.imm (Script.mk ns)], true, rfl, .cons ⟨a, rfl, hS'⟩ .nil, fun x hx => by
    rw [List.mem_singleton.mp hx]
    exact fun z => z, ⟨_, rfl, hm ns hl⟩, fun v W' _ r _ => r⟩
/-- the built-in class of a value -/
class Knd (α : Type) extends Rep α where
  tn : String
  ty : ∀ {K : PySem.W.Frag} {H : Hp} {v : V} {a : α}, rel K H v a → TyOf K H v (.type tn)
instance : Knd Int where
  tn := "int"
  ty := fun {K H v a} h => by
    have h : v = .int a := h
    subst h
    exact .int _
instance : Knd Bool where
  tn := "bool"
  ty := fun {K H v a} h => by
    have h : v = .bl a := h
    subst h
    exact .bl _
instance {α β : Type} [Rep α] [Rep β] : Knd (α × β) where
  tn := "tuple"
  ty := fun h => by
    obtain ⟨p, x, y, rfl, h2, _⟩ := h
    exact .tup h2
instance : Knd Tri where
  tn := "tuple"
  ty := fun h => by
    obtain ⟨p, rfl, h2⟩ := h
    exact .tup h2
instance {α : Type} [Rep α] : Knd (List α) where
  tn := "list"
  ty := fun h => by
    obtain ⟨p, vs, rfl, h2, _⟩ := h
    exact .lst h2
theorem tyOf_mono {K : PySem.W.Frag} {H H' : Hp} {v : V} {t : Value} (e : Ex H H') (h : TyOf K H v t) : TyOf K H' v t := by
  cases h with
  | non => exact .non
  | bl b => exact .bl b
  | int i => exact .int i
  | str x => exact .str x
  | flt b => exact .flt b
  | lst ea => exact .lst (e _ _ ea)
  | frz ea => exact .frz (e _ _ ea)
  | tup ea => exact .tup (e _ _ ea)
  | dK ea => exact .dK (e _ _ ea)
  | dT ea => exact .dT (e _ _ ea)
  | ins ea a b c d f => exact .ins (e _ _ ea) a b c d f
variable [Tb]
section
variable {X : Cx} {ρ : List SV} {pos : Pos} {e a b c d : Expr} {es : List Expr}
/-- isinstance(x, T), T a built-in class -/
def oisi {α : Type} (x : Option α) (r : Bool) : Option Bool := x.bind fun _ => some r
theorem ep_isi {α : Type} [Knd α] {o : Option α} {y : Str} {t : String} {p1 p3 : Pos} (r : Bool) (hm : X.mg "isinstance" = none) (hy : X.mg y = none) (hB : bootBuiltins y = some (.type t)) (hk : kitB (Knd.tn α) t = some r) (ha : Ep X ρ a o)
    (hg : Gl X "isinstance" := by rfl) (hgy : Gl X y := by rfl) (hst : NS X a := by intro _; rfl) (hnn : y ≠ "__name__" := by decide) (hdy : (y == ("__debug__" : Str)) = false := by decide) (hpl : (backTo pos (starEach [.Name y p3] X.env)).any (·.1) = false := by rfl) :
    Ep X ρ (.Call (.Name "isinstance" p1) [a, .Name y p3] [] pos) (oisi o r) := .mk fun z hz We B σ W Q S k => by
  obtain ⟨x, hx, hf⟩ := bind_some hz
  cases hf
  refine useE (pe_callB call_isi hg hm (by decide +kernel) (pa_cons pe_run (pa_cons (pe_bltn (v := .ty t) hgy hy hB rfl hnn hdy) pa_nil rfl) (hst _)) (he := hst _) (hpl := hpl)) (ha.run x hx We B σ W _ S fun v W1 l1 r1 => ?_)
  exact ⟨v, .ty t, .type (Knd.tn α), .type t, r, rfl, .ty t, .base (tyOf_mono W1.e (Knd.ty r1)), kit_ty hk, k _ W1 l1 rfl⟩
/-- len of a tuple -/
def olen3 (x : Option Tri) : Option Int := x.bind fun _ => some 3
theorem ep_len3 {o : Option Tri} {p1 : Pos} (hg : Gl X "len") (hm : X.mg "len" = none) (ha : Ep X ρ a o) (hst : NS X a := by intro _; rfl) : Ep X ρ (.Call (.Name "len" p1) [a] [] pos) (olen3 o) := .mk fun z hz We B σ W Q S k => by
  obtain ⟨x, hx, hf⟩ := bind_some hz
  cases hf
  refine useE (pe_callB call_len_seq hg hm PySem.boot_len (pa_cons pe_run pa_nil (hst _)) (he := hst _)) (ha.run x hx We B σ W _ S fun v W1 l1 ⟨p, e1, e2⟩ => ?_)
  exact ⟨p, _, by rw [e1], .inr (.of (W1.e _ _ e2)), k _ W1 l1 rfl⟩
def olen2 {α β : Type} (x : Option (α × β)) : Option Int := x.bind fun _ => some 2
theorem ep_len2 {α β : Type} [Rep α] [Rep β] {o : Option (α × β)} {p1 : Pos} (hg : Gl X "len") (hm : X.mg "len" = none) (ha : Ep X ρ a o) (hst : NS X a := by intro _; rfl) : Ep X ρ (.Call (.Name "len" p1) [a] [] pos) (olen2 o) := .mk fun z hz We B σ W Q S k => by
  obtain ⟨x, hx, hf⟩ := bind_some hz
  cases hf
  refine useE (pe_callB call_len_seq hg hm PySem.boot_len (pa_cons pe_run pa_nil (hst _)) (he := hst _)) (ha.run x hx We B σ W _ S fun v W1 l1 ⟨p, y, w, e1, e2, _⟩ => ?_)
  exact ⟨p, _, by rw [e1], .inr (.of (W1.e _ _ e2)), k _ W1 l1 rfl⟩
/-- a == b == c of whole numbers, as a test -/
def oeq3 (x y z : Option Int) : Option Bool := x.bind fun i => y.bind fun j => if i = j then z.bind fun k => some (decide (j = k)) else some false
theorem tp_eq3 {oa ob oc : Option Int} (ha : Ep X ρ a oa) (hb : Ep X ρ b ob) (hc : Ep X ρ c oc) (hm : lastMarks [CmpOp.Eq, CmpOp.Eq] [b, c] = false := by rfl) : Tp X ρ (.Compare a [.Eq, .Eq] [b, c] pos) (oeq3 oa ob oc) := .mk fun z hz We B σ W Q S k => by
  obtain ⟨x, hx, hz⟩ := bind_some hz
  obtain ⟨y, hy, hz⟩ := bind_some hz
  refine useT (pt_chain op_eq op_eq pe_run pe_run pe_run (hm := hm)) (ha.run x hx We B σ W _ S fun v W1 l1 r1 => hb.run y hy We B σ W1 _ (S.mono l1) fun u W2 l2 r2 => ?_)
  cases r1
  cases r2
  refine ⟨rfl, _, rfl, ?_⟩
  have ed : decide (V.int x = V.int y) = decide (x = y) := dec_val (α := Int) x y
  rw [ed]
  by_cases h : x = y
  · rw [if_pos h] at hz
    rw [decide_eq_true h]
    obtain ⟨w, hw, hz⟩ := bind_some hz
    cases hz
    refine iteT (hc.run w hw We B σ W2 _ (S.mono (l1.trans l2)) fun t W3 l3 r3 => ?_)
    cases r3
    refine ⟨rfl, _, rfl, ?_⟩
    have ed2 : decide (V.int y = V.int w) = decide (y = w) := dec_val (α := Int) y w
    rw [ed2]
    exact k W3 ((l1.trans l2).trans l3)
  · rw [if_neg h] at hz
    cases hz
    rw [decide_eq_false h]
    exact iteF ⟨_, rfl, k W2 (l1.trans l2)⟩
end
/-! a list unpacked -/
theorem tg_lst3 {K : PySem.W.Frag} {α : Type} [Rep α] (i j l : Nat) (a : List α) (x y z : α) (ha : a = [x, y, z]) (We : Wd) (B : Hp) (ρ : List SV) (σ : L2.St) (W : Wd) (v : V) (Q : L2.St → Hp → Prop) (S : SR K We B ρ σ W) (r : rel K W.s v a)
    (k : ∀ σ', SR K We B (((ρ.set i (.imm x)).set j (.imm y)).set l (.imm z)) σ' W → Q σ' W.h) : gLst K 3 (gCons (gName i) (gCons (gName j) (gCons (gName l) gNil))) v σ W.h Q := by
  subst ha
  obtain ⟨p, vs, e1, e2, r⟩ := r
  match vs, r with
  | [_, _, _], .cons r1 (.cons r2 (.cons r3 .nil)) =>
    exact ⟨p, _, e1, .of (W.e _ _ e2), rfl, _, _, rfl, _, _, rfl, _, [], rfl, rfl, k _ (((S.set (.refl W) r1).set (.refl W) r2).set (.refl W) r3)⟩
theorem tg_lst4 {K : PySem.W.Frag} {α : Type} [Rep α] (i j l n : Nat) (a : List α) (x y z u : α) (ha : a = [x, y, z, u]) (We : Wd) (B : Hp) (ρ : List SV) (σ : L2.St) (W : Wd) (v : V) (Q : L2.St → Hp → Prop) (S : SR K We B ρ σ W) (r : rel K W.s v a)
    (k : ∀ σ', SR K We B ((((ρ.set i (.imm x)).set j (.imm y)).set l (.imm z)).set n (.imm u)) σ' W → Q σ' W.h) : gLst K 4 (gCons (gName i) (gCons (gName j) (gCons (gName l) (gCons (gName n) gNil)))) v σ W.h Q := by
  subst ha
  obtain ⟨p, vs, e1, e2, r⟩ := r
  match vs, r with
  | [_, _, _, _], .cons r1 (.cons r2 (.cons r3 (.cons r4 .nil))) =>
    exact ⟨p, _, e1, .of (W.e _ _ e2), rfl, _, _, rfl, _, _, rfl, _, _, rfl, _, [], rfl, rfl, k _ ((((S.set (.refl W) r1).set (.refl W) r2).set (.refl W) r3).set (.refl W) r4)⟩
section
variable {X : Cx} {ρ : List SV} {pos : Pos} {e a b c d : Expr} {es : List Expr} {rest : List Stmt} {xx : Nat → Hp → Prop} {β γ : Type} [Rep β] {fr : Bool} {post : γ → List SV}
def unl3 {α δ : Type} (a : List α) (f : α → α → α → Option δ) : Option δ := match a with
  | [x, y, z] => f x y z
  | _ => none
def unl4 {α δ : Type} (a : List α) (f : α → α → α → α → Option δ) : Option δ := match a with
  | [x, y, z, u] => f x y z u
  | _ => none
theorem bs_unl3 {α : Type} [Rep α] {tg : Expr} {o : Option (List α)} {f : α → α → α → Option (Out β γ)} (i j l : Nat) (hg : PG X tg (gLst X.K 3 (gCons (gName i) (gCons (gName j) (gCons (gName l) gNil))))) (he : Ep X ρ e o)
    (hr : ∀ x y z, Bs X xx (((ρ.set i (.imm x)).set j (.imm y)).set l (.imm z)) rest fr (f x y z) post)
    (hs : swapsWithSole [tg] e pos.line X.env = pure false := by rfl) (hw : swappedStores [tg] e X.env = pure none := by rfl) (h1 : (assignEach [tg] X.env).map (·.2) = [assign tg X.env] := by rfl) : Bs X xx ρ (.Assign [tg] e pos :: rest) fr (o.bind fun a => unl3 a f) post := .mk fun out ho We B σ W D S k => by
  obtain ⟨y, hy, hf'⟩ := bind_some ho
  unfold unl3 at hf'
  split at hf'
  · refine useSs (pss_cons (ps_asg pe_run hg hs hw h1) pss_run) (he.run _ hy We B σ W _ S fun v W1 l1 r1 => ?_)
    exact tg_lst3 i j l _ _ _ _ rfl We B ρ σ W1 v _ (S.mono l1) r1 fun σ' S' => (hr _ _ _).run out hf' We B σ' W1 D S' k
  · cases hf'
theorem bs_unl4 {α : Type} [Rep α] {tg : Expr} {o : Option (List α)} {f : α → α → α → α → Option (Out β γ)} (i j l n : Nat) (hg : PG X tg (gLst X.K 4 (gCons (gName i) (gCons (gName j) (gCons (gName l) (gCons (gName n) gNil)))))) (he : Ep X ρ e o)
    (hr : ∀ x y z u, Bs X xx ((((ρ.set i (.imm x)).set j (.imm y)).set l (.imm z)).set n (.imm u)) rest fr (f x y z u) post)
    (hs : swapsWithSole [tg] e pos.line X.env = pure false := by rfl) (hw : swappedStores [tg] e X.env = pure none := by rfl) (h1 : (assignEach [tg] X.env).map (·.2) = [assign tg X.env] := by rfl) : Bs X xx ρ (.Assign [tg] e pos :: rest) fr (o.bind fun a => unl4 a f) post := .mk fun out ho We B σ W D S k => by
  obtain ⟨y, hy, hf'⟩ := bind_some ho
  unfold unl4 at hf'
  split at hf'
  · refine useSs (pss_cons (ps_asg pe_run hg hs hw h1) pss_run) (he.run _ hy We B σ W _ S fun v W1 l1 r1 => ?_)
    exact tg_lst4 i j l n _ _ _ _ _ rfl We B ρ σ W1 v _ (S.mono l1) r1 fun σ' S' => (hr _ _ _ _).run out hf' We B σ' W1 D S' k
  · cases hf'
/-! tuples walked -/
/-- e is a tuple of things of one kind -/
structure Up (X : Cx) (ρ : List SV) (e : Expr) {α : Type} [Rep α] (o : Option (List α)) : Prop where
  run : ∀ a, o = some a → ∀ (We : Wd) (B : Hp) (σ : L2.St) (W : Wd) (Q : VK), SR X.K We B ρ σ W → (∀ p vs W', W.Le W' → W'.s p = some (.tup vs) → Paired (fun v x => rel X.K W'.s v x) vs a → Q (.ref p) W'.h) → RunE X e σ W.h Q
theorem up_tup {α : Type} [Rep α] {o : Option (List α)} {x1} (h : Al X ρ es o) (hl : Nat.ble es.length 1000 = true := by rfl) : Up X ρ (.Tuple es x1 pos) o := .mk fun z hz We B σ W Q S k => by
  obtain ⟨h1, h2⟩ := h.run z hz
  refine useE (pe_tup pa_run) (h2 We B σ W _ S fun vs W1 l1 r1 => ⟨?_, fun p hp => ?_⟩)
  · rw [plen r1, h1]
    exact Nat.le_trans (Nat.le_of_ble_eq_true hl) (by decide)
  · have l2 := Wd.Le.new W1 (.tup vs) hp
    exact k p vs (W1.new p (.tup vs) hp) (l1.trans l2) upd_same (pmono (fun _ _ h => Rep.mono l2.s h) r1)
def otl (x : Option Tri) : Option (List Int) := x.bind fun t => some [t.a, t.b, t.c]
theorem up_tri {o : Option Tri} (h : Ep X ρ e o) : Up X ρ e (otl o) := .mk fun z hz We B σ W Q S k => by
  obtain ⟨x, hx, hf⟩ := bind_some hz
  cases hf
  exact h.run x hx We B σ W Q S fun v W1 l1 ⟨p, e1, e2⟩ => by
    subst e1
    exact k p _ W1 l1 e2 (.cons rfl (.cons rfl (.cons rfl .nil)))
theorem bs_forT {α γ1 : Type} [Rep α] {tg iter : Expr} {body : List Stmt} {g : TG} {js : List Nat} {up : α → List SV → List SV} {o : Option (List α)} {f : α → γ1 → Option (Out β γ1)} {m : γ1 → Option (Out β γ)} (P : γ1 → List SV) (g0 : γ1)
    (hg : PG X tg g) (ht : TgR X.K g js up) (hi : Up X ρ iter o) (h0 : Wk ρ (P g0)) (hb : ∀ x g, Bs X xx (up x (P g)) body fr (f x g) P) (hr : ∀ g, Bs X xx (P g) rest fr (m g) post)
    (hp : PassesOwn (model X.prog X.w) X.A X.env X.xe) (hc : X.calm = true) (hs : ∀ x, foldedSetIterable iter X.env x = pure x := by intro _; rfl) :
    Bs X xx ρ (.For tg iter body [] pos :: rest) fr (o.bind fun xs => thenO (loopL f xs g0) m) post := .mk fun out ho We B σ W D S k => by
  obtain ⟨xs, hxs, ho⟩ := bind_some ho
  obtain ⟨o1, h1, hf⟩ := bind_some ho
  refine useSs (pss_cons (ps_for hp hc (pi_tup pe_run) hg pss_run hs) pss_run) (hi.run xs hxs We B σ W _ S fun p vs W1 l1 hp1 r1 => ?_)
  refine ⟨p, rfl, ⟨vs, .of (W1.e _ _ hp1)⟩, for_tup (xs := vs) (fun i σ' H' => ∃ g' W', H' = W'.h ∧ SR X.K We W1.s (P g') σ' W' ∧ loopL f (xs.drop i) g' = some o1) ?_ ?_ ?_ ?_⟩
  · exact ⟨g0, W1, rfl, ((S.mono l1).rebase (Ex.refl _)).wk h0, h1⟩
  · rintro i σ' H' _ ⟨g', W', rfl, S', _⟩
    exact .of (W'.e _ _ (S'.b _ _ hp1))
  · rintro i v σ' H' hv ⟨g', W', rfl, S', hl⟩
    obtain ⟨x, hx, rx⟩ := pget' r1 hv
    rw [drop_get hx] at hl
    obtain ⟨o2, h2, hl⟩ := bind_some hl
    refine ht.run x We W1.s _ σ' W' v _ S' (Rep.mono S'.b rx) fun σ2 S2 _ => ?_
    refine (hb x g').run o2 h2 We W1.s σ2 W' _ S2 ?_
    cases o2 with
    | ret b =>
      cases hl
      cases hf
      exact fun v' W2 l2 b2 r2 q2 => k v' W2 l2 (((S.b.trans l1.s)).trans b2) r2 q2
    | go g2 => exact fun σ3 W3 S3 => ⟨g2, W3, rfl, S3, hl⟩
    | cnt g2 => exact fun σ3 W3 S3 => ⟨g2, W3, rfl, S3, hl⟩
    | exc c =>
      cases hl
      cases hf
      exact k
  · rintro σ' H' ⟨g', W', rfl, S', hl⟩
    rw [plen r1, List.drop_length] at hl
    cases hl
    exact (hr g').run out hf We B σ' W' D (S'.rebase (((S.b.trans l1.s)).trans S'.b)) k
variable {elt tg iter : Expr} {ifs : List Expr} {scope : Scope}
theorem lc_T {α β : Type} [Rep α] [Rep β] {g : TG} {js : List Nat} {up : α → List SV → List SV} {oxs : Option (List α)} {oc : α → Option Bool} {f : α → Option β} {tt : TT} (own : List (Str × Nat)) (ok : BlkOk X.N X.env.scope scope own) (hi : Up X ρ iter oxs)
    (hg : ∀ (s : Shared) (H : Hp) (C : Addr) (cl : List (Str × Addr)) (fp : List Addr), PG (X.blk s H scope (compEnvC scope cl C X.env) fp) tg g) (ht : TgR X.K g js up) (hjs : ∀ j ∈ js, j ∈ own.map (·.2))
    (hpt : ∀ (s : Shared) (H : Hp) (C : Addr) (cl : List (Str × Addr)) (fp : List Addr), PTs (X.blk s H scope (compEnvC scope cl C X.env) fp) ifs tt)
    (hts : ∀ x b, oc x = some b → ∀ (We : Wd) (B : Hp) (σ : L2.St) (W : Wd) (Q : Bool → Hp → Prop), SR X.K We B (up x (wipeS ρ (own.map (·.2)))) σ W → (∀ W', W.Le W' → Q b W'.h) → tt σ W.h Q)
    (he : ∀ x (s : Shared) (H : Hp) (C : Addr) (cl : List (Str × Addr)) (fp : List Addr), Ep (X.blk s H scope (compEnvC scope cl C X.env) fp) (up x (wipeS ρ (own.map (·.2)))) elt (f x)) (hs : ∀ x, foldedSetIterable iter X.env x = pure x) :
    LcOk X ρ elt tg iter ifs scope (oxs.bind fun xs => if capOk xs.length then lcM oc f xs else none) := ⟨_, g, tt, tElt X scope elt, own, pi_tup pe_run, ok, hg, hpt, fun s H C cl fp => ⟨fun pins s' σ' H' Q' I h => h s H C cl fp pins s' I⟩, hs, fun all hall We B σ W Q S k => by
  obtain ⟨xs, hxs, hm⟩ := bind_some hall
  split at hm
  · rename_i hcap
    refine hi.run xs hxs We B σ W _ S fun p vs W1 l1 hp r1 => ?_
    refine ⟨p, rfl, ⟨vs, .of (W1.e _ _ hp)⟩, fun D hD => ?_⟩
    refine lc_tup (g := g) (tt := tt) (te := tElt X scope elt) (σ := σ) (vs := own.map (·.2)) (Qd := fun H => Q (.ref D) H) (xs := vs) (LcP X.K We B ρ σ W1 D oc f xs all) (lcp_start hD hm) ?_ ?_ ?_
    · rintro i H _ ⟨W', us, ys, zs, rfl, l2, _⟩
      exact .of (l2.h _ _ (W1.e _ _ hp) rfl)
    · intro i v H hv pv
      obtain ⟨x, hx, rx⟩ := pget' r1 hv
      exact lcp_turn hD hx hcap (S.mono l1) rx ht hjs (fun b hb => hts x b hb) (fun y hy We' B' σ' W' Q' S' k' s H0 C cl fp => (he x s H0 C cl fp).run y hy We' B' σ' W' Q' S' k') pv
    · intro H pv
      rw [plen r1] at pv
      exact lcp_end l1 hD pv k
  · cases hm⟩
end
end T
/-! plain sums over the mirrors' operations -/
namespace T
local instance tb0 : Tb := ⟨[]⟩
/-! ### sizes -/
def bd (n : Nat) (x : Int) : Prop := x.natAbs < 2 ^ n
theorem bd_mono {n m : Nat} {x : Int} (h : bd n x) (k : n ≤ m) : bd m x := Nat.lt_of_lt_of_le h (Nat.pow_le_pow_right (by decide) k)
theorem bd_add {n m : Nat} {x y : Int} (h1 : bd n x) (h2 : bd m y) : bd (max n m + 1) (x + y) := by
  have e1 := bd_mono h1 (Nat.le_max_left n m)
  have e2 := bd_mono h2 (Nat.le_max_right n m)
  unfold bd at e1 e2 ⊢
  rw [Nat.pow_succ]
  omega
theorem bd_sub {n m : Nat} {x y : Int} (h1 : bd n x) (h2 : bd m y) : bd (max n m + 1) (x - y) := by
  have e1 := bd_mono h1 (Nat.le_max_left n m)
  have e2 := bd_mono h2 (Nat.le_max_right n m)
  unfold bd at e1 e2 ⊢
  rw [Nat.pow_succ]
  omega
theorem bd_mul {n m : Nat} {x y : Int} (h1 : bd n x) (h2 : bd m y) : bd (n + m) (x * y) := by
  unfold bd at h1 h2 ⊢
  rw [Int.natAbs_mul, Nat.pow_add]
  exact Nat.mul_lt_mul'' h1 h2
theorem bd_neg {n : Nat} {x : Int} (h : bd n x) : bd n (-x) := by
  unfold bd at h ⊢
  rw [Int.natAbs_neg]
  exact h
theorem bd_of {n : Nat} {x B : Int} (h1 : -B ≤ x) (h2 : x ≤ B) (h : B.toNat < 2 ^ n) : bd n x := by
  unfold bd
  omega
/-! ### the operations -/
theorem oadd_s (a b : Int) : oadd (some a) (some b) = some (a + b) := rfl
theorem osub_s (a b : Int) : osub (some a) (some b) = some (a - b) := rfl
theorem oneg_s (a : Int) : oneg (some a) = some (-a) := rfl
theorem omul_L {a : Int} (b : Int) (h1 : -(2 ^ 64) < a) (h2 : a < 2 ^ 64) : omul (some a) (some b) = some (a * b) := by
  show (if mulOk a b = true then some (a * b) else none) = _
  rw [if_pos]
  unfold mulOk
  rw [decide_eq_true h1, decide_eq_true h2]
  rfl
theorem omul_R {b : Int} (a : Int) (h1 : -(2 ^ 64) < b) (h2 : b < 2 ^ 64) : omul (some a) (some b) = some (a * b) := by
  show (if mulOk a b = true then some (a * b) else none) = _
  rw [if_pos]
  unfold mulOk
  rw [decide_eq_true h1, decide_eq_true h2]
  simp
theorem small_of {n : Nat} {a : Int} (h : bd n a) (k : n ≤ 600) : smallI a = true := by
  unfold smallI
  exact decide_eq_true (bd_mono h k)
theorem omul_b {n m : Nat} {a b : Int} (h1 : bd n a) (h2 : bd m b) (k1 : n ≤ 600 := by decide) (k2 : m ≤ 600 := by decide) : omul (some a) (some b) = some (a * b) := by
  show (if mulOk a b = true then some (a * b) else none) = _
  rw [if_pos]
  unfold mulOk
  rw [small_of h1 k1, small_of h2 k2]
  simp
theorem omod_s {b : Int} (a : Int) (h : 0 < b) : omod (some a) (some b) = some (a % b) := by
  show (if decide (0 < b) = true then some (a % b) else none) = _
  rw [if_pos (decide_eq_true h)]
theorem ofdiv_s {n : Nat} {b : Int} (a : Int) (h0 : b ≠ 0) (h : bd n b) (k : n ≤ 600 := by decide) : ofdiv (some a) (some b) = some (a.fdiv b) := by
  show (if divOk a b = true then some (a.fdiv b) else none) = _
  rw [if_pos]
  unfold divOk
  rw [decide_eq_true h0, small_of h k]
  rfl
theorem ofdiv_p {b : Int} (a : Int) (h0 : 0 < b) (h : b < 2 ^ 600) : ofdiv (some a) (some b) = some (a / b) := by
  rw [ofdiv_s (n := 600) a (by omega) (by unfold bd; omega), Int.fdiv_eq_ediv_of_nonneg a (by omega)]
theorem opow2_b {n : Nat} {a : Int} (h : bd n a) (k : n ≤ 64 := by decide) : opow (some a) (some (2 : Int)) = some (a * a) := by
  show (if powOk a 2 = true then some (a ^ (2 : Int).toNat) else none) = _
  have e := bd_mono h k
  rw [if_pos]
  · show some (a ^ 2) = _
    rw [Int.pow_succ, Int.pow_succ, Int.pow_zero, Int.one_mul]
  · unfold powOk
    unfold bd at e
    simp only [Bool.and_eq_true, decide_eq_true_eq]
    exact ⟨⟨by decide, by decide⟩, e⟩
theorem ob2i_s (b : Bool) : ob2i (some b) = some (if b then 1 else 0) := rfl
theorem olt_s (a b : Int) : olt (some a) (some b) = some (decide (a < b)) := rfl
theorem ole_s (a b : Int) : ole (some a) (some b) = some (decide (a ≤ b)) := rfl
theorem ogt_s (a b : Int) : ogt (some a) (some b) = some (decide (b < a)) := rfl
theorem oge_s (a b : Int) : oge (some a) (some b) = some (decide (b ≤ a)) := rfl
theorem oeq_s {α : Type} [DecidableEq α] (a b : α) : oeq (some a) (some b) = some (decide (a = b)) := rfl
theorem one_s {α : Type} [DecidableEq α] (a b : α) : one_ (some a) (some b) = some (!decide (a = b)) := rfl
theorem omk2_s {α β : Type} (a : α) (b : β) : omk2 (some a) (some b) = some (a, b) := rfl
theorem omk3_s (a b c : Int) : omk3 (some a) (some b) (some c) = some ⟨a, b, c⟩ := rfl
theorem ofst_s {α β : Type} (a : α × β) : ofst (some a) = some a.1 := rfl
theorem osnd_s {α β : Type} (a : α × β) : osnd (some a) = some a.2 := rfl
theorem ocons_s {α : Type} (a : α) (l : List α) : ocons (some a) (some l) = some (a :: l) := rfl
theorem olen_s {α : Type} (l : List α) : olen (some l) = some (l.length : Int) := rfl
theorem oslen_s (s : Script) : oslen (some s) = some (s.ns.length : Int) := rfl
theorem onot_s (b : Bool) : onot (some b) = some (!b) := rfl
theorem oand_s (a : Bool) (y : Option Bool) : oand (some a) y = if a then y else some false := rfl
theorem oor_s (a : Bool) (y : Option Bool) : oor (some a) y = if a then some true else y := rfl
theorem oand_ss (a b : Bool) : oand (some a) (some b) = some (a && b) := by cases a <;> rfl
theorem oor_ss (a b : Bool) : oor (some a) (some b) = some (a || b) := by cases a <;> rfl
theorem oisi_s {α : Type} (a : α) (r : Bool) : oisi (some a) r = some r := rfl
theorem oin_s {α : Type} [DecidableEq α] (a : α) (l : List α) : oin (some a) (some l) = some (decide (a ∈ l)) := rfl
theorem onin_s {α : Type} [DecidableEq α] (a : α) (l : List α) : onin (some a) (some l) = some (!decide (a ∈ l)) := rfl
theorem oite_s {α : Type} (c : Bool) (x y : Option α) : oite (some c) x y = if c then x else y := rfl
theorem oret_s {α γ : Type} (a : α) : (oret (some a) : Option (Out α γ)) = some (.ret a) := rfl
theorem bind_s {α β : Type} (a : α) (f : α → Option β) : Option.bind (some a) f = f a := rfl
theorem bind2_s {α β γ : Type} (a : α) (b : β) (f : α → β → Option γ) : bind2 (some a) (some b) f = f a b := rfl
theorem bind3_s {α β γ δ : Type} (a : α) (b : β) (c : γ) (f : α → β → γ → Option δ) : bind3 (some a) (some b) (some c) f = f a b c := rfl
theorem bind4_s {α β γ δ ε : Type} (a : α) (b : β) (c : γ) (d : δ) (f : α → β → γ → δ → Option ε) : bind4 (some a) (some b) (some c) (some d) f = f a b c d := rfl
theorem noGo_ret {β γ : Type} (b : β) : (noGo (some (.ret b)) : Option (Out β γ)) = some (.ret b) := rfl
theorem noGo_exc {β γ : Type} (c : Nat) : (noGo (some (.exc c)) : Option (Out β γ)) = some (.exc c) := rfl
theorem retv_ret {β γ : Type} (b : β) : retv (some (.ret b : Out β γ)) = some b := rfl
theorem retx_ret {β γ : Type} (b : β) : retx (some (.ret b : Out β γ)) = some (.inl b) := rfl
theorem retx_exc {β γ : Type} (c : Nat) : retx (some (.exc c : Out β γ)) = some (.inr c) := rfl
theorem thenO_go {β γ γ' : Type} (g : γ) (k : γ → Option (Out β γ')) : thenO (some (.go g)) k = k g := rfl
theorem thenO_ret {β γ γ' : Type} (b : β) (k : γ → Option (Out β γ')) : thenO (some (.ret b : Out β γ)) k = some (.ret b) := rfl
theorem loopL_nil {α β γ : Type} (f : α → γ → Option (Out β γ)) (g : γ) : loopL f [] g = some (.go g) := rfl
theorem loopL_go {α β γ : Type} {f : α → γ → Option (Out β γ)} {x : α} {r : List α} {g g' : γ} (h : f x g = some (.go g')) : loopL f (x :: r) g = loopL f r g' := by
  show (f x g).bind _ = _
  rw [h]
  rfl
theorem loopL_cnt {α β γ : Type} {f : α → γ → Option (Out β γ)} {x : α} {r : List α} {g g' : γ} (h : f x g = some (.cnt g')) : loopL f (x :: r) g = loopL f r g' := by
  show (f x g).bind _ = _
  rw [h]
  rfl
theorem loopL_ret {α β γ : Type} {f : α → γ → Option (Out β γ)} {x : α} {r : List α} {g : γ} {b : β} (h : f x g = some (.ret b)) : loopL f (x :: r) g = some (.ret b) := by
  show (f x g).bind _ = _
  rw [h]
  rfl
theorem cap_s {α : Type} {l : List α} (h : l.length ≤ 1000000) : cap l = some l := by
  unfold cap
  rw [if_pos (show capOk l.length = true from decide_eq_true h)]
theorem ocat_s {α : Type} {a b : List α} (h : a.length + b.length ≤ 1000000) : ocat (some a) (some b) = some (a ++ b) := cap_s (by rw [List.length_append]; exact h)
theorem oapp_s {α : Type} {l : List α} {a : α} (h : l.length ≤ 1000000) : oapp l (some a) = some (l ++ [a]) := by
  show (if capOk l.length = true then _ else _) = _
  rw [if_pos (show capOk l.length = true from decide_eq_true h)]
theorem orng_s {n : Int} (h1 : -1000000 ≤ n) (h2 : n ≤ 1000000) : orng (some n) = some (rngL n) := by
  show (if rngOk n = true then _ else _) = _
  rw [if_pos]
  unfold rngOk
  rw [decide_eq_true h1, decide_eq_true h2]
  rfl
theorem oidx_s {α : Type} (l : List α) (i : Int) : oidx (some l) (some i) = L2.atI l i := rfl
theorem atI_pos {α : Type} {l : List α} {i : Int} (h : 0 ≤ i) : L2.atI l i = l[i.toNat]? := by
  unfold L2.atI L2.ixN
  rw [if_pos h]
  by_cases hl : i < l.length
  · rw [if_pos hl]
    rfl
  · rw [if_neg hl, List.getElem?_eq_none (by omega)]
    rfl
theorem atI_neg {α : Type} {l : List α} {i : Int} (h : i < 0) (h2 : -(l.length : Int) ≤ i) : L2.atI l i = l[(i + l.length).toNat]? := by
  unfold L2.atI L2.ixN
  rw [if_neg (by omega), if_pos h2]
  rfl
theorem lcM_map {α β : Type} (f : α → β) (g : α → Option β) : ∀ l : List α, (∀ x ∈ l, g x = some (f x)) → lcM oYes g l = some (l.map f)
  | [], _ => rfl
  | x :: r, h => by
    show (Option.bind (some true) fun b => if b then (g x).bind fun y => (lcM oYes g r).bind fun ys => some (y :: ys) else lcM oYes g r) = _
    rw [bind_s, if_pos rfl, h x (List.mem_cons_self ..), lcM_map f g r fun y hy => h y (List.mem_cons_of_mem _ hy)]
    rfl
theorem lcM_filter {α β : Type} (p : α → Bool) (f : α → β) (c : α → Option Bool) (g : α → Option β) : ∀ l : List α, (∀ x ∈ l, c x = some (p x)) → (∀ x ∈ l, p x = true → g x = some (f x)) → lcM c g l = some ((l.filter p).map f)
  | [], _, _ => rfl
  | x :: r, h1, h2 => by
    have ih := lcM_filter p f c g r (fun y hy => h1 y (List.mem_cons_of_mem _ hy)) fun y hy => h2 y (List.mem_cons_of_mem _ hy)
    show ((c x).bind fun b => if b then (g x).bind fun y => (lcM c g r).bind fun ys => some (y :: ys) else lcM c g r) = _
    rw [h1 x (List.mem_cons_self ..), ih, bind_s]
    cases hp : p x with
    | true => rw [if_pos rfl, h2 x (List.mem_cons_self ..) hp, List.filter_cons_of_pos hp]; rfl
    | false => rw [if_neg Bool.false_ne_true, List.filter_cons_of_neg (by rw [hp]; exact Bool.false_ne_true)]
/-- a point within B either way -/
def box (B : Int) (p : Int × Int) : Prop := -B ≤ p.1 ∧ p.1 ≤ B ∧ -B ≤ p.2 ∧ p.2 ≤ B
end T
/-! plain geometry: areas, distances, rings -/
namespace T
local instance tb1 : Tb := ⟨[]⟩
abbrev Pt := Int × Int
theorem ofdiv_q {b : Int} (a : Int) (h0 : 0 < b) (h : b < 18446744073709551616) : ofdiv (some a) (some b) = some (a / b) := by
  rw [ofdiv_s (n := 64) a (by omega) (by unfold bd; omega), Int.fdiv_eq_ediv_of_nonneg a (by omega)]
instance (B : Int) (p : Pt) : Decidable (box B p) := inferInstanceAs (Decidable (_ ∧ _ ∧ _ ∧ _))
theorem box_mono {B C : Int} {p : Pt} (h : box B p) (k : B ≤ C) : box C p := by
  obtain ⟨h1, h2, h3, h4⟩ := h
  exact ⟨by omega, by omega, by omega, by omega⟩
/-- a point whose two numbers are short -/
def pb (p : Pt) : Prop := bd 40 p.1 ∧ bd 40 p.2
theorem pb_of {B : Int} {p : Pt} (h : box B p) (k : B ≤ 1000000000 := by decide) : pb p := by
  obtain ⟨h1, h2, h3, h4⟩ := h
  exact ⟨bd_of (B := 1000000000) (by omega) (by omega) (by decide), bd_of (B := 1000000000) (by omega) (by omega) (by decide)⟩
theorem bd_add' {n : Nat} {x y : Int} (h1 : bd n x) (h2 : bd n y) : bd (n + 1) (x + y) := by
  have := bd_add h1 h2
  rwa [Nat.max_self] at this
theorem bd_sub' {n : Nat} {x y : Int} (h1 : bd n x) (h2 : bd n y) : bd (n + 1) (x - y) := by
  have := bd_sub h1 h2
  rwa [Nat.max_self] at this
/-- twice the area of a, b, c, and its sign says which way they turn -/
def area (a b c : Pt) : Int := (b.1 - a.1) * (c.2 - a.2) - (b.2 - a.2) * (c.1 - a.1)
def far (a b : Pt) : Int := (a.1 - b.1) * (a.1 - b.1) + (a.2 - b.2) * (a.2 - b.2)
/-- positive where d lies in the ring through a, b, c that turn left -/
def rings (a b c d : Pt) : Int := far a d * area d b c + far b d * area d c a + far c d * area d a b
def sgn (x : Int) : Int := (if decide (0 < x) then 1 else 0) - (if decide (x < 0) then 1 else 0)
theorem sgn_eq (x : Int) : sgn x = x.sign := by
  unfold sgn
  rcases Int.lt_trichotomy x 0 with h | h | h
  · rw [if_neg (by rw [decide_eq_true_eq]; omega), if_pos (decide_eq_true h), Int.sign_eq_neg_one_of_neg h]; rfl
  · subst h; rfl
  · rw [if_pos (decide_eq_true h), if_neg (by rw [decide_eq_true_eq]; omega), Int.sign_eq_one_of_pos h]; rfl
theorem sgn_mul (x y : Int) : sgn (x * y) = sgn x * sgn y := by rw [sgn_eq, sgn_eq, sgn_eq, Int.sign_mul]
theorem sgn_neg (x : Int) : sgn (-x) = -sgn x := by rw [sgn_eq, sgn_eq, Int.sign_neg]
theorem sgn_pos {x : Int} (h : 0 < x) : sgn x = 1 := by rw [sgn_eq, Int.sign_eq_one_of_pos h]
theorem sgn_zero : sgn 0 = 0 := rfl
theorem sgn_bd (x : Int) : -1 ≤ sgn x ∧ sgn x ≤ 1 := by
  unfold sgn
  by_cases h : decide (0 < x) = true <;> by_cases k : decide (x < 0) = true <;> simp only [h, k, if_true, if_false] <;> decide
theorem sgn_eq0 {x : Int} : sgn x = 0 ↔ x = 0 := by rw [sgn_eq]; exact Int.sign_eq_zero_iff_zero
theorem bd_area {a b c : Pt} (ha : pb a) (hb : pb b) (hc : pb c) : bd 83 (area a b c) :=
  bd_sub' (bd_mul (bd_sub' hb.1 ha.1) (bd_sub' hc.2 ha.2)) (bd_mul (bd_sub' hb.2 ha.2) (bd_sub' hc.1 ha.1))
theorem bd_far {a b : Pt} (ha : pb a) (hb : pb b) : bd 83 (far a b) :=
  bd_add' (bd_mul (bd_sub' ha.1 hb.1) (bd_sub' ha.1 hb.1)) (bd_mul (bd_sub' ha.2 hb.2) (bd_sub' ha.2 hb.2))
theorem area_rot (a b c : Pt) : area b c a = area a b c := by unfold area; grind
theorem area_flip (a b c : Pt) : area b a c = -area a b c := by unfold area; grind
theorem area_sw (a b c : Pt) : area a c b = -area a b c := by unfold area; grind
theorem area_aba (a b : Pt) : area a b a = 0 := by unfold area; grind
theorem area_aab (a b : Pt) : area a a b = 0 := by unfold area; grind
theorem area_abb (a b : Pt) : area a b b = 0 := by unfold area; grind
theorem far_self (a : Pt) : far a a = 0 := by unfold far; grind
theorem rings_rot (a b c d : Pt) : rings b c a d = rings a b c d := by unfold rings; grind
theorem rings_flip (a b c d : Pt) : rings b a c d = -rings a b c d := by
  unfold rings
  rw [area_sw d c a, area_sw d b c, area_sw d a b]
  grind
theorem rings_a (a b c : Pt) : rings a b c a = 0 := by
  unfold rings
  rw [far_self, area_aba, area_aab]
  grind
theorem rings_b (a b c : Pt) : rings a b c b = 0 := by rw [← rings_rot, rings_a]
theorem rings_c (a b c : Pt) : rings a b c c = 0 := by rw [← rings_rot, rings_b]
theorem loop_all {α β γ' : Type} {f : α → Unit → Option (Out β Unit)} {K : Unit → Option (Out β γ')} {xs : List α} {r : Option (Out β γ')} (h : ∀ x ∈ xs, f x () = some (.go ())) (k : K () = r) : thenO (loopL f xs ()) K = r := by
  have e : loopL f xs () = some (.go ()) := by
    clear k
    induction xs with
    | nil => rfl
    | cons x t ih => rw [loopL_go (h x (List.mem_cons_self ..)), ih fun y hy => h y (List.mem_cons_of_mem _ hy)]
  rw [e, thenO_go]
  exact k
theorem loop_allR {α β γ' : Type} {f : α → Unit → Option (Out β Unit)} {K : Unit → Option (Out β γ')} {xs : List α} {r : Option β} (h : ∀ x ∈ xs, f x () = some (.go ())) (k : retv (K ()) = r) : retv (thenO (loopL f xs ()) K) = r := by
  rw [loop_all h rfl]
  exact k
theorem oYes_t {α : Type} (x : α) : oYes x = some true := rfl
end T
/-! typed layer: sorted(.., key=lambda n: xs[n]), xs captured -/
namespace T
open PySem PySem.Spec PyProof.Rows L2 LamX
open Evl (Ex)
open Rep (rel)
def ptLe (k : Int → Int × Int) (p q : Int) : Bool := decide ((k p).1 < (k q).1 ∨ ((k p).1 = (k q).1 ∧ (k p).2 ≤ (k q).2))
def tSortLam (K : PySem.W.Frag) (T : List (Addr × Str)) (i : Nat) (te : TE) : TE := fun σ H Q => te σ H fun v H1 =>
  ∃ (l a : Addr) (ns : List Int) (vs : List V) (k : Int → Int × Int), v = .ref l ∧ SqL K H1 l (ns.map V.int) ∧ σ[i]? = some (some (.ref a)) ∧ SqL K H1 a vs ∧
    (∀ x ∈ ns, 0 ≤ x ∧ ∃ t, vs[x.toNat]? = some (.ref t) ∧ H1 t = some (.tup [.int (k x).1, .int (k x).2])) ∧ Tabs T H1 ∧
    ∀ H2 q, ExtN H1 H2 → Tabs T H2 → H2 q = none → Q (.ref q) (upd H2 q (.lst ((ns.mergeSort (ptLe k)).map V.int)))
theorem sql_ext {K : PySem.W.Frag} {H H' : Hp} {a : Addr} {xs : List V} (e : ExtN H H') (h : SqL K H a xs) : SqL K H' a xs := by
  rcases h with (h | ⟨o, h⟩) | h
  · exact .inl (.inl (e _ _ h fun ps z => by cases z))
  · exact .inl (.inr ⟨o, e _ _ h fun ps z => by cases z⟩)
  · exact .inr h
theorem each_ints : ∀ (ns : List Int) {us : List Value}, Vals (ns.map V.int) us → PySem.W.EachIs (fun v n => ∃ t, v = Value.int n t) us ns
  | [], us, h => by
    cases us with
    | nil => exact .nil
    | cons _ _ => cases h
  | n :: ns, us, h => by
    cases h with
    | cons h r => exact .cons h (each_ints ns r)
theorem vals_each {ns : List Int} {us : List Value} (h : PySem.W.EachIs (fun v n => ∃ t, v = Value.int n t) us ns) : Vals (ns.map V.int) us := by
  induction h with
  | nil => exact .nil
  | cons h _ ih => exact .cons h ih
section
variable {X : Cx} {e : Expr} {te : TE}
theorem pe_sortlam {Ts : List (Addr × Str)} {c P : Addr} {k i : Nat} {params : Arguments} {scope : Scope} {px nx : Str} {p p1 p2 p3 lpos kpos pos : Pos} (hg : Gl X "sorted") (hm : X.mg "sorted" = none) (he : PE X e te) (hst : NS X e)
    (TB : TabB X.base X.mg c P) (hcode : X.env.code = .ref c) (hmT : (P, X.env.qual ++ "<lambda>") ∈ Ts) (hu : ∀ p ∈ Ts, p.1 = P → p.2 = X.env.qual ++ "<lambda>") (hr : Room (k + 1) X.A) (hdef : defaultsOf params X.env = ([], []))
    (hbind : ∀ (q : Str) (cl : List (Str × Addr)) (pm cv ctv v : Value), bindArgs (PySem.W.kla_fn "<lambda>" q params (.Subscript (.Name px p1) (.Name nx p2) p3) scope cl pm cv ctv) ⟨[v], []⟩ = pure [(nx, v)])
    (sk : scope.kind = .function) (sc : scope.isCoroutine = false) (sg : scope.isGenerator = false) (hcell : ∀ y ∈ scope.names, y.2 ≠ .cell) (hln : scope.names.lookup nx = some .local) (hlp : scope.names.lookup px = some .free)
    (hfr : ∀ y ∈ scope.names, y.2 = .free → y.1 = px) (hN : X.N[i]? = some px) (hv : X.env.scope.names.lookup px = some .cell)
    (hdp : (px == ("__debug__" : Str)) = false) (hcp : (px == ("__classdict__" : Str)) = false) (hdn : (nx == ("__debug__" : Str)) = false)
    (hix : ∀ o i, subscripted (.Name nx p2) false o i = operate [o, i] (getItem o i)) :
    PE X (.Call (.Name "sorted" p) [e] [⟨some "key", .Lambda params (.Subscript (.Name px p1) (.Name nx p2) p3) scope lpos, kpos⟩] pos) (tSortLam X.K Ts i te) := by
  refine ⟨fun pins s σ H Q I h => ?_⟩
  refine wpAny_Call_Name_kw (ld_blt I hg hm boot_sorted ?_)
  refine PyProof.Rows.callWith_kw ?_ (by rw [hst]; rfl) (by rw [hst]; rfl) (by rfl) (by rfl)
  rw [hst]
  show wpAny _ _ (spliced ((false, eval e X.env) :: backTo pos (starEach [] X.env))) _ _ s
  refine Calls.spliced_cons (thn (he.run pins s σ H _ I h) fun u s1 ⟨v, H1, I1, r1, l, a, ns, vs, k, ev, hl, ha, hq, hk, hT, fin⟩ => ?_)
  refine Calls.spliced_nil ?_
  subst ev
  obtain rfl : u = Value.ref l := r1
  show wpAny _ _ (evalAll [(do let v ← eval (.Lambda params (.Subscript (.Name px p1) (.Name nx p2) p3) scope lpos) X.env; standAt pos; pure v)]) _ _ s1
  have hfree : ∀ y ∈ scope.names, y.2 = .free → ∃ c, X.env.cells.lookup y.1 = some c := fun y hy e => by
    rw [hfr y hy e]
    exact I1.ok.has _ (.inl hv)
  refine wpAny_evalAll_cons (wpAny_bind (LamX.lam_make2 I1 TB hcode hmT hu hT hdef hfree fun f c' pm ctv H2 s2 I2 eN T2 hf hfn hfr' hco => wpAny_bind (wpAny_standAt (wpAny_pure ?_))))
  refine wpAny_evalAll_nil ?_
  show wpAny _ _ (call (.builtin "sorted") [.ref l] [("key", .ref f)]) _ _ s2
  have hl2 := sql_ext eN hl
  have hq2 := sql_ext eN hq
  obtain ⟨its, rv, pl, hz⟩ := I2.list hl2
  obtain ⟨pts, rp, pp, hzp⟩ := I2.list hq2
  have en := each_ints ns rv
  rw [List.length_map] at hz
  obtain ⟨m, hns, hloc⟩ := I2.loc
  obtain ⟨u, ru, lk⟩ := hloc i px _ hN ha (.inr (.inl hv))
  obtain rfl : u = Value.ref a := ru
  obtain ⟨cp, hcp1, hcp2⟩ : ∃ cp, X.env.cells.lookup px = some cp ∧ s2.heap.IsCell cp (some (.ref a)) := by
    rcases lk with ⟨h1, _⟩ | ⟨_, h2⟩
    · rw [show X.env.kindOf px = X.env.scope.names.lookup px from rfl, hv] at h1
      cases h1
    · exact h2
  have hclo : (cloFrom X.env.cells scope.names []).lookup px = some cp := by
    obtain ⟨c0, hc0⟩ := mem_lookup (cloFrom_has (cells := X.env.cells) (acc := []) (PySem.mem_of_lookup hlp))
    rw [hc0]
    rcases cloFrom_mem (PySem.mem_of_lookup hc0) with hm | ⟨h1, h2⟩
    · cases hm
    · rw [h2, hcp1]
      rfl
  obtain ⟨⟨oc, ocv, tq, hoc, hdc, hvc⟩, _, _⟩ := I2.hok c' _ hco
  refine PySem.W.sorted_key_data (b := false) (bs := ns) (R := fun v n => ∃ t, v = Value.int n t) (fun n => .tuple [.int (k n).1, .int (k n).2]) pl.isList en (PySem.W.AllAlike.of fun _ _ => rfl) (PySem.W.Sortable.tuples fun b => ⟨_, _, rfl⟩) hz (fun x _ => ?_) (PyProof.Rows.ksk_s1 _ _) (fun _ => PyProof.Rows.ksk_l1 _ _) (fun x => PyProof.Rows.ksk_t1 _ _) ?_ ?_
  · have := hr.un
    have e : (PyData.tuple [.int (k x).1, .int (k x).2]).depth ≤ 5 := by
      simp only [PyData.depth, PyData.depthAll]
      omega
    omega
  · rintro v x ⟨t, rfl⟩ hx h tk keep
    obtain ⟨x0, tp, hxv, hxt⟩ := hk x hx
    obtain ⟨wv, hw, rw'⟩ := rp.get hxv
    obtain rfl : wv = Value.ref tp := rw'
    refine wpAny_call (PySem.W.kla_callFunE (by have := hr.dp; show X.A.depth < _; omega) (keep _ _ hf) rfl sc sg rfl ⟨c', oc, ocv, tq, rfl, keep _ _ hoc, hdc, hvc⟩ ?_)
    rw [hbind]
    refine wpAny_pure (wpAny_newFunctionEnv hcell (fun y hy => ?_) (fun h₁ hns hsb => ⟨(I2.nolimit.keeps keep).fresh _ hsb, ?_⟩) sk)
    · rw [List.mem_singleton.mp hy]
      exact hln
    · have kp : ∀ b o, h.get? b = some o → h₁.get? b = some o := fun b o e => hsb.extBut b o (Nat.ne_of_lt (Heap.lt_size e)) (Heap.get?_push_of_some _ e)
      have kp2 : ∀ b o, s2.heap.get? b = some o → h₁.get? b = some o := fun b o e => kp b o (keep b o e)
      show codeAny _ _ (.expr (.Subscript (.Name px p1) (.Name nx p2) p3) (PySem.W.envX (X.env.qual ++ "<lambda>") scope h.objs.size f (.ref c') (cloFrom X.env.cells scope.names []))) _ _
      refine PySem.W.kla_codeExpr (PyProof.Rows.Subscript_ (wpAny_Name (wpAny_loadName_free (c := cp) (v := .ref a) sk hlp hclo ?_ (wpAny_Name (wpAny_loadName_local (v := .int x t) sk hln hns ?_ ?_) hdn) hcp) hdp))
      · obtain ⟨oq, e1, e2⟩ := hcp2
        exact ⟨oq, kp2 _ _ e1, e2⟩
      · show ([(nx, Value.int x t)] : List (Str × Value)).reverse.lookup nx = _
        simp
      · have lp := rp.length
        have l63 := line63
        have hlt : x.toNat < vs.length := (List.getElem?_eq_some_iff.mp hxv).1
        refine PyProof.Rows.item_listR (pp.keeps kp2).isList x0 (by omega) (x := .ref tp) (by simpa using hw) ?_ (hix _ _)
        refine ⟨h₁, _, rfl, kp, ?_⟩
        have hxt2 : H2 tp = some (.tup [.int (k x).1, .int (k x).2]) := eN _ _ hxt fun ps z => by cases z
        obtain ⟨its2, rt, ⟨ot, t1, t2, t3, t4⟩, tz⟩ := I2.tuple (.inl (.inl hxt2))
        cases rt with
        | cons ra rt =>
          obtain ⟨ta, rfl⟩ := ra
          cases rt with
          | cons rb rt =>
            obtain ⟨tb, rfl⟩ := rb
            cases rt
            exact .tuple (as := []) (kp2 _ _ t1) t2 t4 (.cons (as := []) (.int _ _) (.cons (as := []) (.int _ _) .nil))
  · intro out c2 h' tk keep fr0 hget hlen eout
    refine ⟨.ref _, upd H2 (s2.heap.objs.size + 1) (.lst ((ns.mergeSort (ptLe k)).map V.int)), I2.laid (t' := tk) keep (Nat.le_succ _) ⟨?_, _, c2, vals_each ?_, hget⟩, rfl, fin H2 _ eN T2 (I2.hok.fresh (Nat.le_succ _))⟩
    · rw [List.length_map, List.length_mergeSort]
      exact hz
    · rw [PySem.W.dataLe_ii] at eout
      exact eout
end
section
variable [Tb] {X : Cx} {ρ : List SV} {pos : Pos} {e a : Expr}
theorem ints_paired {K : PySem.W.Frag} {H : Hp} : ∀ l : List Int, Paired (fun v (x : Int) => rel K H v x) (l.map V.int) l
  | [] => .nil
  | x :: l => .cons rfl (ints_paired l)
theorem ints_eq {K : PySem.W.Frag} {H : Hp} {vs : List V} {l : List Int} (r : Paired (fun v (x : Int) => rel K H v x) vs l) : vs = l.map V.int := by
  induction r with
  | nil => rfl
  | cons h _ ih => rw [ih, h]; rfl
theorem rgV_eq (z : Int) : rgV 0 z = (rngL z).map V.int := by
  unfold rgV rngL
  rw [Int.sub_zero, List.map_map]
  exact List.map_congr_left fun i _ => by show V.int (0 + (i : Int)) = V.int i; rw [Int.zero_add]
/-- list(range(n)) -/
theorem ep_listR {o : Option Int} {p1 p2 p3 : Pos} (hc : X.calm = true) (hgl : Gl X "list") (hml : X.mg "list" = none) (hg : Gl X "range") (hm : X.mg "range" = none) (ha : Ep X ρ a o) (hst : NS X a := by intro _; rfl)
    (hst2 : NS X (.Call (.Name "range" p1) [a] [] p2) := by intro _; rfl) : EpF X ρ (.Call (.Name "list" p3) [.Call (.Name "range" p1) [a] [] p2] [] pos) (orng o) := .mk fun z hz We B σ W Q S k => by
  obtain ⟨n, hn, hz⟩ := bind_some hz
  split at hz
  · rename_i hok
    cases hz
    unfold rngOk at hok
    simp only [Bool.and_eq_true, decide_eq_true_eq] at hok
    refine useE (pe_listRg hc hgl hml (prg_1 hg hm pe_run (hst _)) (hst2 _)) (ha.run n hn We B σ W _ S fun v W1 l1 r1 => ⟨n, r1, ⟨by omega, by omega, by omega, by omega, by omega⟩, fun q hq => ?_⟩)
    have l2 := Wd.Le.new W1 (.lst (rgV 0 n)) hq
    exact k q _ (W1.new q (.lst (rgV 0 n)) hq) (l1.trans l2) (l1.h.back (fre_of hq)) upd_same (by rw [rgV_eq]; exact ints_paired _)
  · cases hz
def osortL (pts : List (Int × Int)) (o : Option (List Int)) : Option (List Int) := o.bind fun l => if l.all (fun x => decide (0 ≤ x) && decide (x.toNat < pts.length)) then some (l.mergeSort (ptLe fun i => pts.getD i.toNat (0, 0))) else none
theorem paired_get {α β : Type} {F : α → β → Prop} : ∀ {l : List α} {m : List β}, Paired F l m → ∀ {i : Nat} {y : β}, m[i]? = some y → ∃ x, l[i]? = some x ∧ F x y
  | _, _, .nil, i, y, h => by cases h
  | _, _, .cons h t, 0, y, e => by cases e; exact ⟨_, rfl, h⟩
  | _, _, .cons h t, i + 1, y, e => paired_get t (i := i) e
/-- sorted(e, key=lambda n: xs[n]) -/
theorem ep_sortlam {o : Option (List Int)} {pts : List (Int × Int)} {c P : Addr} {k i : Nat} {params : Arguments} {scope : Scope} {px nx : Str} {p p1 p2 p3 lpos kpos : Pos} (he : EpF X ρ e o) (hρ : ρ[i]? = some (.imm pts)) (hg : Gl X "sorted") (hm : X.mg "sorted" = none) (hst : NS X e)
    (TB : TabB X.base X.mg c P) (hcode : X.env.code = .ref c) (hT : Tb.T = [(P, X.env.qual ++ "<lambda>")]) (hr : Room (k + 1) X.A) (hdef : defaultsOf params X.env = ([], []))
    (hbind : ∀ (q : Str) (cl : List (Str × Addr)) (pm cv ctv v : Value), bindArgs (PySem.W.kla_fn "<lambda>" q params (.Subscript (.Name px p1) (.Name nx p2) p3) scope cl pm cv ctv) ⟨[v], []⟩ = pure [(nx, v)])
    (sk : scope.kind = .function) (sc : scope.isCoroutine = false) (sg : scope.isGenerator = false) (hcell : ∀ y ∈ scope.names, y.2 ≠ .cell) (hln : scope.names.lookup nx = some .local) (hlp : scope.names.lookup px = some .free)
    (hfr : ∀ y ∈ scope.names, y.2 = .free → y.1 = px) (hN : X.N[i]? = some px) (hv : X.env.scope.names.lookup px = some .cell)
    (hdp : (px == ("__debug__" : Str)) = false) (hcp : (px == ("__classdict__" : Str)) = false) (hdn : (nx == ("__debug__" : Str)) = false)
    (hix : ∀ o i, subscripted (.Name nx p2) false o i = operate [o, i] (getItem o i)) :
    EpF X ρ (.Call (.Name "sorted" p) [e] [⟨some "key", .Lambda params (.Subscript (.Name px p1) (.Name nx p2) p3) scope lpos, kpos⟩] pos) (osortL pts o) := .mk fun z hz We B σ W Q S k => by
  obtain ⟨l, hl, hz⟩ := bind_some hz
  split at hz
  · rename_i hall
    cases hz
    obtain ⟨v0, ev0, rv0⟩ := S.imm hρ
    obtain ⟨a0, vs0, rfl, hs0, rp0⟩ := rv0
    refine useE (pe_sortlam (Ts := Tb.T) hg hm pe_run hst TB hcode (by rw [hT]; exact List.mem_singleton.mpr rfl) (fun q hq _ => by rw [hT] at hq; rw [List.mem_singleton.mp hq]) hr hdef hbind sk sc sg hcell hln hlp hfr hN hv hdp hcp hdn hix) ?_
    refine he.run l hl We B σ W _ S fun q vs W1 l1 hn hp r1 => ⟨q, a0, l, vs0, fun i => pts.getD i.toNat (0, 0), rfl, ?_, ev0, .of (W1.e _ _ (l1.s _ _ hs0)), fun x hx => ?_, W1.tb, fun H2 q2 eN T2 hq2 => ?_⟩
    · rw [← ints_eq r1]
      exact .of (W1.e _ _ hp)
    · have hx' := List.all_eq_true.mp hall x hx
      simp only [Bool.and_eq_true, decide_eq_true_eq] at hx'
      obtain ⟨h0, h1⟩ := hx'
      refine ⟨h0, ?_⟩
      have eg : pts[x.toNat]? = some pts[x.toNat] := List.getElem?_eq_getElem h1
      obtain ⟨v, hv1, t, y1, y2, rfl, hst', hy1, hy2⟩ := paired_get rp0 eg
      refine ⟨t, hv1, ?_⟩
      have hy1 : y1 = .int pts[x.toNat].1 := hy1
      have hy2 : y2 = .int pts[x.toNat].2 := hy2
      subst hy1 hy2
      have eD : pts.getD x.toNat (0, 0) = pts[x.toNat] := by rw [List.getD_eq_getElem?_getD, eg]; rfl
      show W1.h t = some (.tup [.int (pts.getD x.toNat (0, 0)).1, .int (pts.getD x.toNat (0, 0)).2])
      rw [eD]
      exact W1.e _ _ (l1.s _ _ hst')
    · let W2 : Wd := ⟨W1.s, H2, fun b o hb => eN b o (W1.e b o hb) fun ps z => (by have := W1.nt b o hb; rw [z] at this; cases this), W1.nt, T2⟩
      have l12 : W1.Le W2 := ⟨Ex.refl _, fun b o hb hno => eN b o hb fun ps z => (by rw [z] at hno; cases hno), fun _ _ _ _ h => h⟩
      have l23 := Wd.Le.new W2 (.lst ((l.mergeSort (ptLe fun i => pts.getD i.toNat (0, 0))).map V.int)) hq2
      exact k q2 _ (W2.new q2 (.lst ((l.mergeSort (ptLe fun i => pts.getD i.toNat (0, 0))).map V.int)) hq2) ((l1.trans l12).trans l23) ((l1.trans l12).h.back (fre_of hq2)) upd_same (ints_paired _)
  · cases hz
end
/-- a def of one parameter whose code object is known -/
theorem fn_okC1 [Tb] {P : Program} {w : World} {K : PySem.W.Frag} {mg : Str → Option Value} {base : Heap} {name qual : Str} {params : Arguments} {body : List Stmt} {scope : Scope} {at_ : He.Defn} {fd : FuncData} {N ps : List Str} {k : Nat} {β : Type} [Rep β] {fr : Bool} {α γ : Type} [Rep α] {m : α → Option (Out β γ)} {post : γ → List SV}
    (F : FunD K name qual params body scope [] [] (He.fAd K at_) fd) (S : FnScope N ps scope) (hl : ps.length ≤ N.length) (h1 : ps.length = 1)
    (h : ∀ (A : Around) (outer : List Env) (s : Shared) (H : Hp) (E : XK), Room k (A.deeper (envOfC qual scope s.heap.objs.size (He.fAd K at_) (.ref (He.codeOf K at_)))) → ∀ a, Bs (cx0 P w K mg base N qual scope (He.fAd K at_) (.ref (He.codeOf K at_)) A outer s H E) noX ([.imm a] ++ List.replicate (N.length - 1) .any) body fr (m a) post) :
    FnOk P w K mg base CX0 (k + 1) (He.fAd K at_) fd ps (spOf K fr (C1 fun a => retv (m a))) := by
  obtain ⟨oc, od, dV, kV, doc, pm, an, cdv, ct, osl, rfl, lk, hcd, _, _⟩ := F.ex
  obtain ⟨c, rfl⟩ := He.codeIn_ref hcd
  have ec : He.codeOf K at_ = c := He.codeOf_eq lk rfl
  subst ec
  refine fn_of lk hcd S (fun vs H Q E ⟨W, avs, r, _, pr, _, ⟨a, e, _⟩, _⟩ => by rw [pr.len, e, h1]; rfl) (fun A outer s H vs Q E hr ⟨W, avs, r, eh, pr, nm, ⟨a, e, hm⟩, q⟩ => ?_)
  subst eh e
  have hb := h A outer s W.h E hr a
  refine ⟨RunSs (cx0 P w K mg base N qual scope (He.fAd K at_) (.ref (He.codeOf K at_)) A outer s W.h E) body, PSs.nox pss_run, ?_⟩
  have hm : retv (m a) = some r := hm
  unfold retv at hm
  split at hm
  · rename_i b hb'
    cases hm
    exact hb.run (.ret r) hb' W W.s _ W _ (sr_start (avs := [.imm a]) (by show 1 ≤ _; omega) pr nm) fun v W' le _ rr hf => q v W' le rr hf
  · cases hm
end T
/-! typed layer: sorted, min, max, len(set(..)), index, clear -/
namespace T
open PySem PySem.Spec PyProof.Rows L2
open Evl (Ex)
open Rep (rel)
/-- data with Python's order -/
class Ordd (α : Type) extends Dat α where
  lt : α → α → Bool
  lt_eq : ∀ a b, PySem.W.dataLt (toD a) (toD b) = lt a b
  ak : ∀ a b, PySem.W.alike (toD a) (toD b) = true
  nn : ∀ a, toD a ≠ .none
  so : (∀ a, ∃ x r, toD a = .tuple (x :: r)) ∨ ∀ a, toD a ≠ .none ∧ ∀ xs, toD a ≠ .tuple xs
instance : Ordd Int where
  lt := fun a b => decide (a < b)
  lt_eq := fun a b => PySem.W.dataLt_int a b
  ak := fun a b => rfl
  nn := fun a z => by cases z
  so := .inr fun a => ⟨fun z => (by cases z), fun xs z => (by cases z)⟩
instance : Ordd (Int × Int) where
  lt := fun a b => decide (a.1 < b.1 ∨ (a.1 = b.1 ∧ a.2 < b.2))
  lt_eq := fun a b => PySem.W.dataLt_ii a.1 a.2 b.1 b.2
  ak := fun a b => rfl
  nn := fun a z => by cases z
  so := .inl fun a => ⟨_, _, rfl⟩
/-- sorted(xs) by values -/
def rSrtD (K : PySem.W.Frag) (β : Type) [Ordd β] : List V → Hp → VK → Prop := fun vs H Q => ∃ (a : Addr) (xs : List V) (bs : List β) (F : V → β → Prop), vs = [V.ref a] ∧ SqL K H a xs ∧ Paired F xs bs ∧ (∀ x b, F x b → Dp K H x (Dat.toD b)) ∧
  ∀ ys p, Paired F ys (bs.mergeSort fun x y => !Ordd.lt y x) → H p = none → Q (.ref p) (upd H p (.lst ys))
theorem each_of {β : Type} {F : V → β → Prop} : ∀ {xs : List V} {bs : List β} {us : List Value}, Paired F xs bs → Vals xs us → PySem.W.EachIs (fun v b => ∃ x, RelV x v ∧ F x b) us bs
  | _, _, _, .nil, h => by cases h; exact .nil
  | _, _, _, .cons f t, h => by
    cases h with
    | cons r h => exact .cons ⟨_, r, f⟩ (each_of t h)
theorem each_to {β : Type} {F : V → β → Prop} {us : List Value} {bs : List β} (h : PySem.W.EachIs (fun v b => ∃ x, RelV x v ∧ F x b) us bs) : ∃ xs, Vals xs us ∧ Paired F xs bs := by
  induction h with
  | nil => exact ⟨[], .nil, .nil⟩
  | cons h _ ih =>
    obtain ⟨x, r, f⟩ := h
    obtain ⟨xs, h1, h2⟩ := ih
    exact ⟨x :: xs, .cons r h1, .cons f h2⟩
theorem each_imp {α β : Type} {R R' : α → β → Prop} {as : List α} {bs : List β} (h : PySem.W.EachIs R as bs) (f : ∀ a b, R a b → R' a b) : PySem.W.EachIs R' as bs := by
  induction h with
  | nil => exact .nil
  | cons h _ ih => exact .cons (f _ _ h) ih
theorem depthAll_le {β : Type} [Dat β] : ∀ bs : List β, PyData.depthAll (bs.map Dat.toD) ≤ Dat.deep β + 1
  | [] => by rw [List.map_nil]; simp only [PyData.depthAll]; omega
  | b :: bs => by
    have h1 := depthAll_le bs
    have h2 := Dat.dep b
    rw [List.map_cons]
    simp only [PyData.depthAll]
    omega
variable [Tb]
section
variable {X : Cx} {ρ : List SV} {pos : Pos} {e a b : Expr}
theorem cr_srtD {β : Type} [Ordd β] (hr : X.A.units + 64 < cLine) (hd : Dat.deep β ≤ 32) : CallR X (.builtin "sorted") (rSrtD X.K β) := by
  intro pins s σ H vs us Q I r h
  obtain ⟨l, xs, bs, F, rfl, hq, hp, hF, q⟩ := h
  obtain rfl := Vals.ref1 r
  obtain ⟨its, rv, pl, hz⟩ := I.list hq
  have e1 := each_of hp rv
  have hlen : bs.length = xs.length := (plen hp).symm
  refine PySem.W.sorted_data (enc := Dat.toD) (bs := bs) pl.isList e1 (each_imp e1 fun v b ⟨x, hx, f⟩ => Dp.reads I _ _ _ (hF x b f) hx) (PySem.W.AllAlike.of Ordd.ak) ?_ (by omega) (fun b _ => ?_) fun out hlo eo => ?_
  · rcases Ordd.so (α := β) with h | h
    · exact PySem.W.Sortable.tuples h
    · exact PySem.W.Sortable.others h
  · have := Dat.dep b
    omega
  · rw [PySem.W.dataLe_eq] at eo
    simp only [cond_false, Ordd.lt_eq] at eo
    obtain ⟨ys, hy, hp2⟩ := each_to eo
    obtain ⟨ep, he'⟩ := PyProof.Rows.sortedAll_at s.heap its out.toArray
    refine ⟨.ref _, upd H (s.heap.objs.size + 1) (.lst ys), I.laid (t' := s.toks) (fun _ _ => PyProof.Rows.sortedAll_old) (Nat.le_succ _) ⟨?_, _, ep, hy, he'⟩, rfl, q _ _ hp2 (I.hok.fresh (Nat.le_succ _))⟩
    have := plen hp2
    rw [List.length_mergeSort] at this
    omega
def osort {α : Type} [Ordd α] (o : Option (List α)) : Option (List α) := o.bind fun l => some (l.mergeSort fun x y => !Ordd.lt y x)
theorem ep_sorted {α : Type} [Ordd α] {o : Option (List α)} {p1 : Pos} (hr : X.A.units + 64 < cLine) (hg : Gl X "sorted") (hm : X.mg "sorted" = none) (ha : Lp X ρ a o) (hst : NS X a := by intro _; rfl) (hd : Dat.deep α ≤ 32 := by decide) : EpF X ρ (.Call (.Name "sorted" p1) [a] [] pos) (osort o) := .mk fun z hz We B σ W Q S k => by
  obtain ⟨l, hl, hz⟩ := bind_some hz
  cases hz
  refine useE (pe_callB (cr_srtD (β := α) hr hd) hg hm boot_sorted (pa_cons pe_run pa_nil (hst _)) (he := hst _)) (ha.run l hl We B σ W _ S fun p vs W1 l1 hp r1 => ⟨p, vs, l, fun v x => rel X.K W1.s v x, rfl, .of hp, r1, fun x b f => Dp.mono' W1.e _ _ (Dat.dp f), fun ys n hy hn => ?_⟩)
  have l2 := Wd.Le.new W1 (.lst ys) hn
  exact k n ys (W1.new n (.lst ys) hn) (l1.trans l2) (l1.h.back (fre_of hn)) upd_same (pmono (fun _ _ h => Rep.mono l2.s h) hy)
theorem dpAll_ofF {β : Type} [Dat β] {K : PySem.W.Frag} {H : Hp} {F : V → β → Prop} (hF : ∀ x b, F x b → Dp K H x (Dat.toD b)) : ∀ {xs : List V} {bs : List β}, Paired F xs bs → DpAll K H xs (bs.map Dat.toD)
  | _, _, .nil => .nil
  | _, _, .cons f t => .cons (hF _ _ f) (dpAll_ofF hF t)

def minF {β : Type} [Ordd β] (b : β) (bs : List β) : β := bs.foldl (fun a y => if Ordd.lt y a then y else a) b
theorem minF_eq {β : Type} [Ordd β] : ∀ (bs : List β) (b : β), PySem.W.minD (Dat.toD b) (bs.map Dat.toD) = Dat.toD (minF b bs)
  | [], _ => rfl
  | y :: bs, b => by
    have e : PySem.W.minD (Dat.toD b) ((y :: bs).map Dat.toD) = PySem.W.minD (if PySem.W.dataLt (Dat.toD y) (Dat.toD b) then Dat.toD y else Dat.toD b) (bs.map Dat.toD) := rfl
    have e2 : minF b (y :: bs) = minF (if Ordd.lt y b then y else b) bs := rfl
    rw [e, e2, Ordd.lt_eq, ← minF_eq bs]
    congr 1
    split <;> rfl
def rMinD (K : PySem.W.Frag) (β : Type) [Ordd β] : List V → Hp → VK → Prop := fun vs H Q => ∃ (l : Addr) (xs : List V) (b : β) (bs : List β) (F : V → β → Prop), vs = [V.ref l] ∧ (SqL K H l xs ∨ SqT K H l xs) ∧ Paired F xs (b :: bs) ∧ (∀ x b, F x b → Dp K H x (Dat.toD b)) ∧ ∀ y, F y (minF b bs) → Q y H
theorem cr_minD {β : Type} [Ordd β] (hc : X.calm = true) (hr : X.A.units + 64 < cLine) (hd : Dat.deep β ≤ 32) : CallR X (.builtin "min") (rMinD X.K β) := by
  intro pins s σ H vs us Q I r h
  obtain ⟨l, xs, b, bs, F, rfl, hq, hp, hF, q⟩ := h
  obtain rfl := Vals.ref1 r
  have hdp := depthAll_le (b :: bs)
  rw [List.map_cons] at hdp
  have hak : PySem.W.AlikeAll ((b :: bs).map Dat.toD) := ⟨fun x hx y hy => by
    obtain ⟨x', _, rfl⟩ := List.mem_map.mp hx
    obtain ⟨y', _, rfl⟩ := List.mem_map.mp hy
    exact Ordd.ak x' y', fun x hx => by
    obtain ⟨x', _, rfl⟩ := List.mem_map.mp hx
    exact Ordd.nn x'⟩
  have core : ∀ (its : List Value), Vals xs its → ∀ (i : Nat) (v : Value) (h' : Heap) (tk : Nat) (as : List Addr), its.toArray[i]? = some v → Reads h' v (PySem.W.minD (Dat.toD b) (bs.map Dat.toD)) as → (∀ b o, s.heap.get? b = some o → h'.get? b = some o) →
      EP X pins σ Q v { s with heap := h', toks := tk } := fun its rv i v h' tk as hv hR kp => by
    have hv : its[i]? = some v := by simpa using hv
    obtain ⟨y, hy, ry⟩ := paired_get rv hv
    have hi : i < (b :: bs).length := by rw [← plen hp]; exact (List.getElem?_eq_some_iff.mp hy).1
    obtain ⟨y2, hy2, fy⟩ := paired_get hp (List.getElem?_eq_getElem hi)
    rw [hy] at hy2
    cases hy2
    obtain ⟨as2, rd⟩ := Dp.reads I _ _ _ (hF _ _ fy) ry
    have e1 := SeqAt.readOf_eq (Dat.lay _) (PySem.W.reads_keeps kp rd)
    rw [minF_eq] at hR
    have e2 := SeqAt.readOf_eq (Dat.lay _) hR
    have e3 : (b :: bs)[i] = minF b bs := by
      refine (Dat.eqv _ _).mp ?_
      rw [← e2, e1]
      exact (Dat.eqv _ _).mpr rfl
    rw [e3] at fy
    exact ⟨y, H, I.kept kp, ry, q y fy⟩
  rcases hq with hq | hq
  · obtain ⟨its, rv, pl, hz⟩ := I.list hq
    obtain ⟨as, hra⟩ := Dp.readsAll I _ _ _ (dpAll_ofF hF hp) rv
    exact PySem.W.min_list_data (x := Dat.toD b) (xs := bs.map Dat.toD) (I.ok.hd hc) pl.isList hra hak (by omega) (core its rv)
  · obtain ⟨its, rv, pl, hz⟩ := I.tuple hq
    obtain ⟨as, hra⟩ := Dp.readsAll I _ _ _ (dpAll_ofF hF hp) rv
    exact PySem.W.min_tuple_data (x := Dat.toD b) (xs := bs.map Dat.toD) (I.ok.hd hc) pl hra hak (by omega) (core its rv)
/-- min of a list, of a walked tuple -/
def ominL {α : Type} [Ordd α] (o : Option (List α)) : Option α := o.bind fun l => match l with
  | [] => none
  | b :: bs => some (minF b bs)
theorem ep_minL {α : Type} [Ordd α] {o : Option (List α)} {p1 : Pos} (hc : X.calm = true) (hr : X.A.units + 64 < cLine) (hg : Gl X "min") (hm : X.mg "min" = none) (ha : Lp X ρ a o) (hst : NS X a := by intro _; rfl) (hd : Dat.deep α ≤ 32 := by decide) : Ep X ρ (.Call (.Name "min" p1) [a] [] pos) (ominL o) := .mk fun z hz We B σ W Q S k => by
  obtain ⟨l, hl, hz⟩ := bind_some hz
  cases l with
  | nil => cases hz
  | cons b bs =>
    cases hz
    exact useE (pe_callB (cr_minD (β := α) hc hr hd) hg hm (by decide +kernel) (pa_cons pe_run pa_nil (hst _)) (he := hst _)) (ha.run _ hl We B σ W _ S fun p vs W1 l1 hp r1 => ⟨p, vs, b, bs, fun v x => rel X.K W1.s v x, rfl, .inl (.of hp), r1, fun x b f => Dp.mono' W1.e _ _ (Dat.dp f), fun y fy => k y W1 l1 fy⟩)
theorem ep_minU {α : Type} [Ordd α] {o : Option (List α)} {p1 : Pos} (hc : X.calm = true) (hr : X.A.units + 64 < cLine) (hg : Gl X "min") (hm : X.mg "min" = none) (ha : Up X ρ a o) (hst : NS X a := by intro _; rfl) (hd : Dat.deep α ≤ 32 := by decide) : Ep X ρ (.Call (.Name "min" p1) [a] [] pos) (ominL o) := .mk fun z hz We B σ W Q S k => by
  obtain ⟨l, hl, hz⟩ := bind_some hz
  cases l with
  | nil => cases hz
  | cons b bs =>
    cases hz
    exact useE (pe_callB (cr_minD (β := α) hc hr hd) hg hm (by decide +kernel) (pa_cons pe_run pa_nil (hst _)) (he := hst _)) (ha.run _ hl We B σ W _ S fun p vs W1 l1 hp r1 => ⟨p, vs, b, bs, fun v x => rel X.K W1.s v x, rfl, .inr (.of (W1.e _ _ hp)), r1, fun x b f => Dp.mono' W1.e _ _ (Dat.dp f), fun y fy => k y W1 l1 fy⟩)

def maxF {β : Type} [Ordd β] (b : β) (bs : List β) : β := bs.foldl (fun a y => if Ordd.lt a y then y else a) b
theorem maxF_eq {β : Type} [Ordd β] : ∀ (bs : List β) (b : β), PySem.W.maxD (Dat.toD b) (bs.map Dat.toD) = Dat.toD (maxF b bs)
  | [], _ => rfl
  | y :: bs, b => by
    have e : PySem.W.maxD (Dat.toD b) ((y :: bs).map Dat.toD) = PySem.W.maxD (if PySem.W.dataLt (Dat.toD b) (Dat.toD y) then Dat.toD y else Dat.toD b) (bs.map Dat.toD) := rfl
    have e2 : maxF b (y :: bs) = maxF (if Ordd.lt b y then y else b) bs := rfl
    rw [e, e2, Ordd.lt_eq, ← maxF_eq bs]
    congr 1
    split <;> rfl
def rMaxD (K : PySem.W.Frag) (β : Type) [Ordd β] : List V → Hp → VK → Prop := fun vs H Q => ∃ (l : Addr) (xs : List V) (b : β) (bs : List β) (F : V → β → Prop), vs = [V.ref l] ∧ (SqL K H l xs ∨ SqT K H l xs) ∧ Paired F xs (b :: bs) ∧ (∀ x b, F x b → Dp K H x (Dat.toD b)) ∧ ∀ y, F y (maxF b bs) → Q y H
theorem cr_maxD {β : Type} [Ordd β] (hc : X.calm = true) (hr : X.A.units + 64 < cLine) (hd : Dat.deep β ≤ 32) : CallR X (.builtin "max") (rMaxD X.K β) := by
  intro pins s σ H vs us Q I r h
  obtain ⟨l, xs, b, bs, F, rfl, hq, hp, hF, q⟩ := h
  obtain rfl := Vals.ref1 r
  have hdp := depthAll_le (b :: bs)
  rw [List.map_cons] at hdp
  have hak : PySem.W.AlikeAll ((b :: bs).map Dat.toD) := ⟨fun x hx y hy => by
    obtain ⟨x', _, rfl⟩ := List.mem_map.mp hx
    obtain ⟨y', _, rfl⟩ := List.mem_map.mp hy
    exact Ordd.ak x' y', fun x hx => by
    obtain ⟨x', _, rfl⟩ := List.mem_map.mp hx
    exact Ordd.nn x'⟩
  have core : ∀ (its : List Value), Vals xs its → ∀ (i : Nat) (v : Value) (h' : Heap) (tk : Nat) (as : List Addr), its.toArray[i]? = some v → Reads h' v (PySem.W.maxD (Dat.toD b) (bs.map Dat.toD)) as → (∀ b o, s.heap.get? b = some o → h'.get? b = some o) →
      EP X pins σ Q v { s with heap := h', toks := tk } := fun its rv i v h' tk as hv hR kp => by
    have hv : its[i]? = some v := by simpa using hv
    obtain ⟨y, hy, ry⟩ := paired_get rv hv
    have hi : i < (b :: bs).length := by rw [← plen hp]; exact (List.getElem?_eq_some_iff.mp hy).1
    obtain ⟨y2, hy2, fy⟩ := paired_get hp (List.getElem?_eq_getElem hi)
    rw [hy] at hy2
    cases hy2
    obtain ⟨as2, rd⟩ := Dp.reads I _ _ _ (hF _ _ fy) ry
    have e1 := SeqAt.readOf_eq (Dat.lay _) (PySem.W.reads_keeps kp rd)
    rw [maxF_eq] at hR
    have e2 := SeqAt.readOf_eq (Dat.lay _) hR
    have e3 : (b :: bs)[i] = maxF b bs := by
      refine (Dat.eqv _ _).mp ?_
      rw [← e2, e1]
      exact (Dat.eqv _ _).mpr rfl
    rw [e3] at fy
    exact ⟨y, H, I.kept kp, ry, q y fy⟩
  rcases hq with hq | hq
  · obtain ⟨its, rv, pl, hz⟩ := I.list hq
    obtain ⟨as, hra⟩ := Dp.readsAll I _ _ _ (dpAll_ofF hF hp) rv
    exact PySem.W.max_list_data (x := Dat.toD b) (xs := bs.map Dat.toD) (I.ok.hd hc) pl.isList hra hak (by omega) (core its rv)
  · obtain ⟨its, rv, pl, hz⟩ := I.tuple hq
    obtain ⟨as, hra⟩ := Dp.readsAll I _ _ _ (dpAll_ofF hF hp) rv
    exact PySem.W.max_tuple_data (x := Dat.toD b) (xs := bs.map Dat.toD) (I.ok.hd hc) pl hra hak (by omega) (core its rv)
/-- max of a list, of a walked tuple -/
def omaxL {α : Type} [Ordd α] (o : Option (List α)) : Option α := o.bind fun l => match l with
  | [] => none
  | b :: bs => some (maxF b bs)
theorem ep_maxL {α : Type} [Ordd α] {o : Option (List α)} {p1 : Pos} (hc : X.calm = true) (hr : X.A.units + 64 < cLine) (hg : Gl X "max") (hm : X.mg "max" = none) (ha : Lp X ρ a o) (hst : NS X a := by intro _; rfl) (hd : Dat.deep α ≤ 32 := by decide) : Ep X ρ (.Call (.Name "max" p1) [a] [] pos) (omaxL o) := .mk fun z hz We B σ W Q S k => by
  obtain ⟨l, hl, hz⟩ := bind_some hz
  cases l with
  | nil => cases hz
  | cons b bs =>
    cases hz
    exact useE (pe_callB (cr_maxD (β := α) hc hr hd) hg hm (by decide +kernel) (pa_cons pe_run pa_nil (hst _)) (he := hst _)) (ha.run _ hl We B σ W _ S fun p vs W1 l1 hp r1 => ⟨p, vs, b, bs, fun v x => rel X.K W1.s v x, rfl, .inl (.of hp), r1, fun x b f => Dp.mono' W1.e _ _ (Dat.dp f), fun y fy => k y W1 l1 fy⟩)
theorem ep_maxU {α : Type} [Ordd α] {o : Option (List α)} {p1 : Pos} (hc : X.calm = true) (hr : X.A.units + 64 < cLine) (hg : Gl X "max") (hm : X.mg "max" = none) (ha : Up X ρ a o) (hst : NS X a := by intro _; rfl) (hd : Dat.deep α ≤ 32 := by decide) : Ep X ρ (.Call (.Name "max" p1) [a] [] pos) (omaxL o) := .mk fun z hz We B σ W Q S k => by
  obtain ⟨l, hl, hz⟩ := bind_some hz
  cases l with
  | nil => cases hz
  | cons b bs =>
    cases hz
    exact useE (pe_callB (cr_maxD (β := α) hc hr hd) hg hm (by decide +kernel) (pa_cons pe_run pa_nil (hst _)) (he := hst _)) (ha.run _ hl We B σ W _ S fun p vs W1 l1 hp r1 => ⟨p, vs, b, bs, fun v x => rel X.K W1.s v x, rfl, .inr (.of (W1.e _ _ hp)), r1, fun x b f => Dp.mono' W1.e _ _ (Dat.dp f), fun y fy => k y W1 l1 fy⟩)
end
/-! ### len(set(ints)) -/
def dd {α : Type} [DecidableEq α] (l : List α) : List α := l.foldl (fun s v => if v ∈ s then s else s ++ [v]) []
theorem foldl_dd : ∀ (l s : List Int), l.foldl PyProof.Rows.step_dedup s = l.foldl (fun s v => if v ∈ s then s else s ++ [v]) s
  | [], _ => rfl
  | v :: l, s => by
    have e : PyProof.Rows.step_dedup s v = if v ∈ s then s else s ++ [v] := by
      unfold PyProof.Rows.step_dedup
      by_cases h : v ∈ s
      · rw [if_pos h, if_pos (List.any_eq_true.mpr ⟨v, h, by simp⟩)]
      · rw [if_neg h, if_neg fun z => by
          obtain ⟨x, h1, h2⟩ := List.any_eq_true.mp z
          exact h (by rw [← beq_iff_eq.mp h2]; exact h1)]
    rw [List.foldl_cons, List.foldl_cons, e]
    exact foldl_dd l _
theorem range_getD (ns : List Int) : (List.range ns.length).map (fun i => ns.getD i 0) = ns := by
  refine List.ext_getElem (by simp) fun i h1 h2 => ?_
  rw [List.getElem_map, List.getElem_range, List.getD_eq_getElem?_getD, List.getElem?_eq_getElem h2]
  rfl
theorem firstMet_dd (ns : List Int) : PyProof.Rows.firstMet (fun i => ns.getD i 0) ns.length = dd ns := by
  unfold PyProof.Rows.firstMet
  rw [range_getD, foldl_dd]
  rfl
def osetl (o : Option (List Int)) : Option Int := o.bind fun l => if decide (l.length ≤ 4000) then some ((dd l).length : Int) else none
section
variable {X : Cx} {ρ : List SV} {pos : Pos} {e a b : Expr}
theorem ep_lenset {o : Option (List Int)} {p1 p2 p3 : Pos} (hc : X.calm = true) (hg : Gl X "len") (hm : X.mg "len" = none) (hg2 : Gl X "set") (hm2 : X.mg "set" = none) (ha : Lp X ρ a o) (na : NS X a := by intro _; rfl) :
    Ep X ρ (.Call (.Name "len" p1) [.Call (.Name "set" p2) [a] [] p3] [] pos) (osetl o) := .mk fun z hz We B σ W Q S k => by
  obtain ⟨l, hl, hz⟩ := bind_some hz
  split at hz
  · rename_i hsz
    cases hz
    have hsz := of_decide_eq_true hsz
    have P : PE X (.Call (.Name "len" p1) [.Call (.Name "set" p2) [a] [] p3] [] pos) (fun σ H Q => RunE X a σ H fun x H1 => ∃ (l : Addr) (ns : List Int), x = V.ref l ∧ SqL X.K H1 l (ns.map V.int) ∧ ns.length ≤ 4000 ∧ Q (.int (dd ns).length) H1) := by
      refine ⟨fun pins s σ H Q I h => Call_ (ld_blt I hg hm PySem.boot_len (PyProof.Rows.callWith_builtin1 (PyProof.Rows.args_cons (Call_ (ld_blt I hg2 hm2 PyProof.Rows.boot_set (PyProof.Rows.callWith_type1 (PyProof.Rows.args_cons ?_ (na _)) (na _) rfl))) rfl) rfl rfl))⟩
      refine thn ((pe_run (X := X) (e := a)).run pins s σ H _ I h) fun v s1 ⟨x, H1, I1, r1, l, ns, ex, hq, hn, q1⟩ => PyProof.Rows.args_nil ?_
      subst ex
      cases r1
      obtain ⟨its, r, pl, hz⟩ := I1.list hq
      have hl : its.toArray.size = ns.length := by rw [List.size_toArray, ← r.length, List.length_map]
      refine call_set_list (I1.ok.hd hc) pl.isList (ns := ns) (by simpa using r.ints) (by unfold scanBound; omega) fun h' tk hS hk => ?_
      rw [hl, firstMet_dd] at hS
      obtain ⟨ob, es, ep, t, ho, hex, hd, _, _, _, hf, hn'⟩ := hS
      have I2 : Inv X pins σ H1 { s1 with heap := h', toks := tk } := I1.kept fun b o e => hk b o (Heap.lt_size e) e
      have hle : (dd ns).length ≤ ns.length := by rw [← firstMet_dd]; exact PyProof.Rows.firstMet_length_le _ _
      exact PyProof.Rows.args_nil (call_len_set ho hex hd hf (by rw [hn'] <;> omega) ⟨.int (dd ns).length, H1, I2.tok _, ⟨_, by rw [hn']⟩, q1⟩)
    exact useE P (ha.run l hl We B σ W _ S fun p vs W1 l1 hp r1 => ⟨p, l, rfl, by rw [← ints_eq r1]; exact .of hp, hsz, k _ W1 l1 rfl⟩)
  · cases hz
/-! ### xs.index(x) -/
def oindx {α : Type} [DecidableEq α] (o : Option (List α)) (x : Option α) : Option Int := bind2 o x fun l a => if a ∈ l then some (l.idxOf a : Int) else none
theorem ep_index {α : Type} [Dat α] [DecidableEq α] {oa : Option (List α)} {ob : Option α} {p1 : Pos} (hu : X.A.units + 65 < cLine) (ha : Lp X ρ a oa) (hb : Ep X ρ b ob) (hd : Dat.deep α ≤ 63 := by decide)
    (hbase : attributeBase a "index" X.env (eval a X.env) = eval a X.env := by rfl)
    (hfew : ((backTo pos (starEach [b] X.env)).all (fun x => !x.1) && (backToKw pos (keywordEach [] X.env)).all (fun x => x.1.isSome)
      && decide ([b].length + ([] : List Keyword).length + (if ([] : List Keyword).isEmpty then 0 else 1) < 30)) = true := by rfl)
    (hline : (p1.endLine == pos.line) = true := by rfl) (hst : NS X b := by intro _; rfl) :
    Ep X ρ (.Call (.Attribute a "index" p1) [b] [] pos) (oindx oa ob) := .mk fun z hz We B σ W Q S k => by
  obtain ⟨l, x, hl, hx, hz⟩ := bind2_some hz
  split at hz
  · rename_i hm
    cases hz
    refine useE (pe_bm PySem.F.plainAttrs_list PySem.F.slot_list_index PySem.F.type_list_index (mt_indexD hu) pe_run (pa_cons pe_run pa_nil (hst _)) hbase hfew hline (hst _)) ?_
    refine ha.run l hl We B σ W _ S fun p vs W1 l1 hp r1 => ⟨.inl ⟨rfl, _, .of hp⟩, hb.run x hx We B σ W1 _ (S.mono l1) fun u W2 l2 r2 => ?_⟩
    have r1' := pmono (fun _ _ h => Rep.mono (Ex.trans l2.s W2.e) h) r1
    have hi : l.idxOf x < l.length := List.idxOf_lt_length_iff.mpr hm
    refine ⟨p, u, Dat.toD x, l.map Dat.toD, l.idxOf x, Dat.toD x, rfl, rfl, .lst (.of (l2.h _ _ hp rfl)) (dpAll_of r1'), Dp.mono' W2.e _ _ (Dat.dp r2), shaped_of (α := List α) (Nat.succ_le_succ hd) l, shaped_of (Nat.le_trans hd (by decide)) x, ?_, (Dat.eqv x x).mpr rfl, fun m z' hmj hz' => ?_, k _ W2 (l1.trans l2) rfl⟩
    · rw [List.getElem?_map, List.getElem?_eq_getElem hi, List.getElem_idxOf hi]
      rfl
    · rw [List.getElem?_map] at hz'
      have hml : m < l.length := by omega
      rw [List.getElem?_eq_getElem hml] at hz'
      cases hz'
      rw [eqv_dec]
      refine decide_eq_false fun e => ?_
      have := List.not_of_lt_findIdx (p := fun y => y == x) (xs := l) (i := m) hmj
      simp [e] at this
  · cases hz
/-! ### x.clear() -/
variable {rest : List Stmt} {xx : Nat → Hp → Prop} {β γ : Type} [Rep β] {fr : Bool} {post : γ → List SV}
theorem bs_clear {α : Type} [Rep α] {xs : ML α} {m : Option (Out β γ)} {x : Str} {p0 p1 p2 : Pos} (i : Nat) (hr : Bs X xx (ρ.set i (.mut (ML.mk ([] : List α)))) rest fr m post) (hρ : ρ[i]? = some (.mut xs) := by rfl)
    (hN : X.N[i]? = some x := by rfl) (hv : Vis X.env.scope x := by first | exact Or.inl rfl | exact Or.inr (Or.inl rfl) | exact Or.inr (Or.inr rfl)) (hd : (x == ("__debug__" : Str)) = false := by decide)
    (hcd : (x == ("__classdict__" : Str)) = false := by decide) (hbase : attributeBase (.Name x p0) "clear" X.env (eval (.Name x p0) X.env) = eval (.Name x p0) X.env := by rfl)
    (hline : (p1.endLine == p2.line) = true := by rfl) (hs : swapsWith (.Call (.Attribute (.Name x p0) "clear" p1) [] [] p2) none pos.line X.env = pure false := by rfl) :
    Bs X xx ρ (.Expr (.Call (.Attribute (.Name x p0) "clear" p1) [] [] p2) pos :: rest) fr m post := .mk fun out ho We B σ W D S k => by
  obtain ⟨l, ob, e1, n1, n2, hh, vs, rfl, r⟩ := S.at_ i _ hρ
  refine useSs (pss_cons (ps_expr (pe_bm0 PySem.F.plainAttrs_list PySem.F.slot_list_clear PySem.F.type_list_clear mt_clear (pe_var hN hv hd hcd) hbase hline) hs) pss_run) ?_
  refine ⟨_, e1, .inl ⟨rfl, _, .of hh⟩, l, vs, rfl, rfl, hh, ?_⟩
  obtain ⟨W2, e2, S2⟩ := S.mutate (δ := ML α) (m' := ML.mk ([] : List α)) (ob := .lst []) hρ e1 (show MRep.orel X.K W.s _ (ML.mk ([] : List α)) from ⟨_, rfl, .nil⟩)
  have q := hr.run out ho We B _ W2 D S2 k
  rw [e2] at q
  exact q
end
end T
/-! typed layer: list(reversed(xs)) -/
namespace T
open PySem PySem.Spec PyProof.Rows L2
section
variable {prog : Program} {w : World} {A : Around} {E : Value → Shared → Prop} {s : Shared}
/-- S gets what the reversed walk at it gives -/
theorem grow_rv {R : Result → Shared → Prop} {it l S : Addr} {its : Array Value} {e0 : Nat} (hh : A.handled = none) (hit : s.heap.IsRevIter it l ((its.size : Int) - 1)) (hl : s.heap.IsList l its)
    (hne : l ≠ it) (hn : its.size ≤ sizeLine) (hSi : S ≠ it) (hSl : S ≠ l) (hS : s.heap.get? S = some { cls := .type "list", data := .seq #[] e0 }) (res : Value)
    (hR : ∀ (h' : Heap) (tk : Nat) (acc : Array Value) (c' : Nat), (∀ b o, b ≠ S → b ≠ it → s.heap.get? b = some o → h'.get? b = some o) → h'.get? S = some { cls := .type "list", dict := none, data := .seq acc c', slots := #[] } →
      ItemsOf (fun i v => its[its.size - 1 - i]? = some v) acc its.size → R (.ok (.ret res)) { s with heap := h', toks := tk }) :
    wpAny (model prog w) A.in1 (Builtin.List.listExtendWith (.ref S) (.ref it) res)
      (fun fin s' => match fin with
        | .done f => R (.ok f) s'
        | .again c' => c'.quiet = true ∧ codeAny (model prog w) A c' R s') (fun e s' => R (.error e) s') s := by
  have walk := (Walks.listRev (prog := prog) (w := w) (A := A.in1) hh it l hne its).toS
  have out : S ∉ [it, l] := by
    intro z
    rcases List.mem_cons.mp z with z | z
    · exact hSi z
    · exact hSl (List.mem_singleton.mp z)
  have ty := hit.typeIs
  have notSame : Builtin.List.listSameRef (.ref S) (.ref it) = false := by simp [Builtin.List.listSameRef, hSi]
  unfold Builtin.List.listExtendWith
  refine wpAny_bind (wpAny_typeOf ty ?_)
  rw [if_neg (by rw [notSame]; exact fun z => (by revert z; decide))]
  refine wpAny_bind (wpAny_pyIter_revIter hit (wpAny_bind (wpAny_holding ?_)))
  unfold Builtin.List.listLengthHint
  refine wpAny_bind (wpAny_specialOf ty RT.nolen_lri ?_)
  refine wpAny_bind (m := specialOf (Value.ref it) (Str.ofString "__length_hint__")) (wpAny_specialOf ty RT.hint_lri ?_)
  generalize hid : ("list_reverseiterator.__length_hint__" : String) = idv
  wp_delta
  rw [show splitId idv = some ("list_reverseiterator", "__length_hint__") by rw [← hid]; decide +kernel]
  subst hid
  refine wpAny_bind (wpAny_isInstance (b := true) ty (by rw [isSubtype_type]; kernel_rfl) (wpAny_pure ?_))
  rw [if_neg (by exact fun z => (by revert z; decide))]
  have ee : ((its.size : Nat) : Int) - 1 - ((0 : Nat) : Int) = (its.size : Int) - 1 := Int.sub_zero _
  refine wpAny_pure ⟨plainId_quiet F.plain_extend_loop _, codeAny_extend_loopS walk hn S out res its.size 0 _ _ _ rfl (Nat.zero_le _) ⟨Nat.zero_le _, by rw [ee]; exact hit, hl⟩ hS (ItemsOf.nil _) fun s' acc' c' hm hS' hacc => ?_⟩
  rw [Moved.eq_with hm]
  exact hR s'.heap s'.toks acc' c' (fun b o h1 h2 e => hm.heap b o (fun z => by
    rcases List.mem_cons.mp z with z | z
    · exact h1 z
    · exact h2 (List.mem_singleton.mp z)) e) hS' hacc
/-- list(it) -/
theorem call_list_rv {Q : Value → Shared → Prop} {it l : Addr} {its : Array Value} (hh : A.handled = none) (hit : s.heap.IsRevIter it l ((its.size : Int) - 1)) (hl : s.heap.IsList l its) (hne : l ≠ it) (hn : its.size ≤ sizeLine)
    (hQ : ∀ (h' : Heap) (tk : Nat) (acc : Array Value) (c' : Nat), (∀ b o, b ≠ it → s.heap.get? b = some o → h'.get? b = some o) → h'.get? s.heap.objs.size = some { cls := .type "list", dict := none, data := .seq acc c', slots := #[] } →
      ItemsOf (fun i v => its[its.size - 1 - i]? = some v) acc its.size → Q (.ref s.heap.objs.size) { s with heap := h', toks := tk }) :
    wpAny (model prog w) A (call (.type "list") [.ref it]) Q E s := by
  refine callType_codes (Q₁ := fun ob s₁ => ob = .ref s.heap.objs.size ∧ s₁ = { s with heap := s.heap.push { cls := .type "list", data := .seq #[] } }) F.called_list (F.typeCall_list_1 _) F.entry_list_init (code_list_new _ ⟨rfl, rfl⟩) ?_
  rintro ob s₁ ⟨rfl, rfl⟩
  obtain ⟨oi, hoi, _⟩ := id hit
  obtain ⟨ol, hol, _⟩ := id hl
  have n1 : s.heap.objs.size ≠ it := Nat.ne_of_gt (Heap.lt_size hoi)
  have n2 : s.heap.objs.size ≠ l := Nat.ne_of_gt (Heap.lt_size hol)
  have top : (s.heap.push { cls := .type "list", data := .seq #[] }).get? s.heap.objs.size = some { cls := .type "list", data := .seq #[] } := Heap.get?_push_size _ rfl
  refine ⟨⟨_, top, rfl⟩, F.args_list_init_2 _ _, ?_⟩
  show wpAny _ _ (do
    let old ← Builtin.List.listItems (.ref s.heap.objs.size)
    Builtin.List.listUpdate (.ref s.heap.objs.size) (fun _ => #[])
    letGo old.toList.reverse
    Builtin.List.listExtendWith (.ref s.heap.objs.size) (.ref it) .none) _ _ _
  refine wpAny_bind ?_
  unfold Builtin.List.listItems
  refine wpAny_bind (wpAny_seqItems top rfl (wpAny_pure ?_))
  refine wpAny_bind (m := updateSeq s.heap.objs.size fun _ => (#[] : Array Value)) (wpAny_updateSeq top rfl (wpAny_bind (wpAny_letGo ?_)))
  have keep : ∀ b o, b ≠ s.heap.objs.size → s.heap.get? b = some o → ((s.heap.push { cls := .type "list", data := .seq #[] }).update s.heap.objs.size (Obj.mapSeq fun _ => (#[] : Array Value))).get? b = some o := fun b o h e =>
    (Heap.get?_update_other _ _ (Ne.symm h)).trans (Heap.get?_push_of_some _ e)
  refine grow_rv (A := A.in1) hh (Heap.IsRevIter.at hit fun o e => keep it o (Ne.symm n1) e) ?_ hne hn n1 n2 (Heap.get?_update_self (Obj.mapSeq fun _ => (#[] : Array Value)) top rfl) .none fun h' tk acc c' hk hS' hacc => ?_
  · obtain ⟨o, e1, e2, n, e3⟩ := hl
    exact ⟨o, keep l o (Ne.symm n2) e1, e2, n, e3⟩
  · exact ⟨rfl, hQ h' tk acc c' (fun b o hb e => hk b o (Nat.ne_of_lt (Heap.lt_size e)) hb (keep b o (Nat.ne_of_lt (Heap.lt_size e)) e)) hS' hacc⟩
end
variable [Tb] {X : Cx} {ρ : List SV} {pos : Pos} {a : Expr}
def orev {α : Type} (o : Option (List α)) : Option (List α) := o.bind fun l => some l.reverse
theorem ep_listV {α : Type} [Rep α] {o : Option (List α)} {p1 p2 p3 : Pos} (hc : X.calm = true) (hg : Gl X "list") (hm : X.mg "list" = none) (hg2 : Gl X "reversed") (hm2 : X.mg "reversed" = none) (ha : Lp X ρ a o) (hs : NS X a := by intro _; rfl)
    (hs2 : NS X (.Call (.Name "reversed" p2) [a] [] p3) := by intro _; rfl) : EpF X ρ (.Call (.Name "list" p1) [.Call (.Name "reversed" p2) [a] [] p3] [] pos) (orev o) := .mk fun z hz We B σ W Q S k => by
  obtain ⟨l, hl, hz⟩ := bind_some hz
  cases hz
  have P : PE X (.Call (.Name "list" p1) [.Call (.Name "reversed" p2) [a] [] p3] [] pos) (fun σ H Q => RunE X a σ H fun v H1 => ∃ (l : Addr) (xs : List V), v = .ref l ∧ SqL X.K H1 l xs ∧ ∀ q, H1 q = none → Q (.ref q) (upd H1 q (.lst xs.reverse))) := by
    refine ⟨fun pins s σ H Q I h => ?_⟩
    refine Call_ (ld_blt I hg hm boot_list (PyProof.Rows.callWith_type1 (args_cons (Call_ (ld_blt I hg2 hm2 PyProof.Rows.boot_reversed (PyProof.Rows.callWith_type1 (args_cons (thn ((pe_run (X := X) (e := a)).run pins s σ H _ I h) fun u s1 ⟨v, H1, I1, r1, l, xs, ev, hq, q⟩ => args_nil ?_) (hs _)) (hs _) rfl))) (hs2 _)) (hs2 _) rfl))
    subst ev
    obtain rfl : u = Value.ref l := r1
    obtain ⟨its, rv, pl, hz⟩ := I1.list hq
    refine call_reversed_list pl.isList (args_nil ?_)
    have I2 : Inv X pins σ H1 { s1 with heap := s1.heap.push (revObj l ((its.toArray.size : Int) - 1)) } := I1.kept (t' := s1.toks) fun b o e => Heap.get?_push_of_some _ e
    obtain ⟨f0, f1, f2, f3, f4, f5⟩ := I1.fpOk (H' := H1) (b := s1.heap.objs.size) (Nat.le_refl _) (I1.hok.fresh (Nat.le_refl _))
    have hl := pl.isList
    obtain ⟨ol, hol, _⟩ := id hl
    have hn : its.toArray.size ≤ sizeLine := by rw [List.size_toArray, ← rv.length]; exact hz
    refine call_list_rv (s := { s1 with heap := s1.heap.push (revObj l ((its.toArray.size : Int) - 1)) }) (I1.ok.hd hc) ⟨_, Heap.get?_push_size _ rfl, rfl, rfl⟩ (hl.push _) (Nat.ne_of_lt (Heap.lt_size hol)) hn fun h' tk acc c' hk he' hi => ?_
    have sz : (s1.heap.push (revObj l ((its.toArray.size : Int) - 1))).objs.size = s1.heap.objs.size + 1 := by
      simp [Heap.push]
    refine ⟨.ref _, upd H1 _ (.lst xs.reverse), I1.laid (t' := tk) (fun b o e => hk b o (Nat.ne_of_lt (Heap.lt_size e)) (Heap.get?_push_of_some _ e)) (by rw [sz]; exact Nat.le_succ _) (show ObjOk X.prog X.w _ _ _ (.lst xs.reverse) from ⟨by rw [List.length_reverse]; exact hz, acc.toList, c', RT.vals_rev rv hi, by rw [Array.toArray_toList]; exact he'⟩), rfl, q _ (I1.hok.fresh (by rw [sz]; exact Nat.le_succ _))⟩
  exact useE P (ha.run l hl We B σ W _ S fun p vs W1 l1 hp r1 => ⟨p, vs, rfl, .of hp, fun n hn => by
    have l2 := Wd.Le.new W1 (.lst vs.reverse) hn
    exact k n vs.reverse (W1.new n (.lst vs.reverse) hn) (l1.trans l2) (l1.h.back (fre_of hn)) upd_same (prev (pmono (fun _ _ h => Rep.mono l2.s h) r1))⟩)
end T
namespace T
open PySem PySem.Spec PyProof.Rows L2
open Evl (Ex)
variable [Tb] {X : Cx} {ρ : List SV} {pos : Pos} {a : Expr}
/-- isinstance(a list, t) -/
theorem ep_isiL {α : Type} [Rep α] {o : Option (List α)} {y : Str} {t : String} {p1 p3 : Pos} (r : Bool) (hm : X.mg "isinstance" = none) (hy : X.mg y = none) (hB : bootBuiltins y = some (.type t)) (hk : kitB "list" t = some r) (ha : Lp X ρ a o)
    (hg : Gl X "isinstance" := by rfl) (hgy : Gl X y := by rfl) (hst : NS X a := by intro _; rfl) (hnn : y ≠ "__name__" := by decide) (hdy : (y == ("__debug__" : Str)) = false := by decide) (hpl : (backTo pos (starEach [.Name y p3] X.env)).any (·.1) = false := by rfl) :
    Ep X ρ (.Call (.Name "isinstance" p1) [a, .Name y p3] [] pos) (oisi o r) := .mk fun z hz We B σ W Q S k => by
  obtain ⟨x, hx, hf⟩ := bind_some hz
  cases hf
  refine useE (pe_callB call_isi hg hm (by decide +kernel) (pa_cons pe_run (pa_cons (pe_bltn (v := .ty t) hgy hy hB rfl hnn hdy) pa_nil rfl) (hst _)) (he := hst _) (hpl := hpl)) (ha.run x hx We B σ W _ S fun p vs W1 l1 hp r1 => ?_)
  exact ⟨.ref p, .ty t, .type "list", .type t, r, rfl, .ty t, .base (.lst hp), kit_ty hk, k _ W1 l1 rfl⟩
end T
/-! plain geometry: the order of directions, convex chains, a point added on the right -/
namespace T
/-! ### vectors -/
def crs (u v : Pt) : Int := u.1 * v.2 - u.2 * v.1
def vec (a b : Pt) : Pt := (b.1 - a.1, b.2 - a.2)
/-- to the right, or straight up -/
def lp (u : Pt) : Prop := 0 < u.1 ∨ (u.1 = 0 ∧ 0 < u.2)
/-- a before b, by the first number, then by the second -/
def lx (a b : Pt) : Prop := a.1 < b.1 ∨ (a.1 = b.1 ∧ a.2 < b.2)
instance (a b : Pt) : Decidable (lx a b) := inferInstanceAs (Decidable (_ ∨ _))
theorem lp_vec {a b : Pt} : lp (vec a b) ↔ lx a b := by
  unfold lp vec lx
  constructor <;> rintro (h | ⟨h, k⟩) <;> dsimp at * <;> omega
theorem area_crs (a b c : Pt) : area a b c = crs (vec a b) (vec a c) := rfl
theorem area_crs2 (a b c : Pt) : area a b c = crs (vec a b) (vec b c) := by unfold area crs vec; grind
theorem crs_neg (u v : Pt) : crs v u = -crs u v := by unfold crs; grind
theorem crs_vec (u : Pt) (a b : Pt) : crs u (vec b a) = -crs u (vec a b) := by unfold crs vec; grind
theorem lx_irrefl (a : Pt) : ¬ lx a a := by unfold lx; omega
theorem lx_trans {a b c : Pt} (h : lx a b) (k : lx b c) : lx a c := by unfold lx at *; omega
theorem lx_asymm {a b : Pt} (h : lx a b) (k : lx b a) : False := by unfold lx at *; omega
theorem lx_total {a b : Pt} (h : ¬ lx a b) (k : ¬ lx b a) : a = b := by
  unfold lx at *
  exact Prod.ext (by omega) (by omega)
theorem lx_ne {a b : Pt} (h : lx a b) : a ≠ b := fun e => lx_irrefl a (by rw [← e] at h; exact h)
/-- the way round: a plane's three directions -/
theorem crs_x (u v w : Pt) : v.1 * crs u w = u.1 * crs v w + w.1 * crs u v := by unfold crs; grind
theorem pos_of_mul {a b : Int} (ha : 0 < a) (h : 0 < a * b) : 0 < b := by
  rcases Int.lt_trichotomy b 0 with k | k | k
  · have := Int.mul_neg_of_pos_of_neg ha k
    omega
  · subst k
    omega
  · exact k
theorem nonneg_of_mul {a b : Int} (ha : 0 < a) (h : 0 ≤ a * b) : 0 ≤ b := by
  rcases Int.lt_trichotomy b 0 with k | k | k
  · have := Int.mul_neg_of_pos_of_neg ha k
    omega
  · omega
  · omega
theorem mul_pos' {a b : Int} (ha : 0 < a) (hb : 0 < b) : 0 < a * b := Int.mul_pos ha hb
theorem mul_nn {a b : Int} (ha : 0 ≤ a) (hb : 0 ≤ b) : 0 ≤ a * b := Int.mul_nonneg ha hb
theorem lp_nn {u : Pt} (h : lp u) : 0 ≤ u.1 := by unfold lp at h; omega
/-- u up to v, v up to w: u up to w -/
theorem le_le {u v w : Pt} (hu : lp u) (hv : lp v) (hw : lp w) (h1 : 0 ≤ crs u v) (h2 : 0 ≤ crs v w) : 0 ≤ crs u w := by
  rcases hv with hv | ⟨hv, hv2⟩
  · refine nonneg_of_mul hv ?_
    rw [crs_x]
    exact Int.add_nonneg (mul_nn (lp_nn hu) h2) (mul_nn (lp_nn hw) h1)
  · have e : crs v w = -(v.2 * w.1) := by unfold crs; rw [hv]; grind
    have h3 : w.1 = 0 := by
      rcases Int.lt_trichotomy w.1 0 with k | k | k
      · have := lp_nn hw; omega
      · exact k
      · have := mul_pos' hv2 k
        omega
    have hw2 : 0 < w.2 := by unfold lp at hw; omega
    have e2 : crs u w = u.1 * w.2 := by unfold crs; rw [h3]; grind
    rw [e2]
    exact mul_nn (lp_nn hu) (by omega)
theorem lt_le {u v w : Pt} (hu : lp u) (hv : lp v) (hw : lp w) (h1 : 0 < crs u v) (h2 : 0 ≤ crs v w) : 0 < crs u w := by
  have hux : 0 < u.1 := by
    rcases hu with hu | ⟨hu, hu2⟩
    · exact hu
    · have e : crs u v = -(u.2 * v.1) := by unfold crs; rw [hu]; grind
      have := mul_nn (show 0 ≤ u.2 by omega) (lp_nn hv)
      omega
  rcases hv with hv | ⟨hv, hv2⟩
  · refine pos_of_mul hv ?_
    rw [crs_x]
    rcases hw with hw | ⟨hw, hw2⟩
    · exact Int.add_pos_of_nonneg_of_pos (mul_nn (by omega) h2) (mul_pos' hw h1)
    · have e : crs v w = v.1 * w.2 := by unfold crs; rw [hw]; grind
      rw [hw, e, Int.zero_mul, Int.add_zero]
      exact mul_pos' hux (mul_pos' hv hw2)
  · have e : crs v w = -(v.2 * w.1) := by unfold crs; rw [hv]; grind
    have h3 : w.1 = 0 := by
      rcases Int.lt_trichotomy w.1 0 with k | k | k
      · have := lp_nn hw; omega
      · exact k
      · have := mul_pos' hv2 k
        omega
    have hw2 : 0 < w.2 := by unfold lp at hw; omega
    have e2 : crs u w = u.1 * w.2 := by unfold crs; rw [h3]; grind
    rw [e2]
    exact mul_pos' hux hw2
theorem le_lt {u v w : Pt} (hu : lp u) (hv : lp v) (hw : lp w) (h1 : 0 ≤ crs u v) (h2 : 0 < crs v w) : 0 < crs u w := by
  have hvx : 0 < v.1 := by
    rcases hv with hv | ⟨hv, hv2⟩
    · exact hv
    · have e : crs v w = -(v.2 * w.1) := by unfold crs; rw [hv]; grind
      have := mul_nn (show 0 ≤ v.2 by omega) (lp_nn hw)
      omega
  refine pos_of_mul hvx ?_
  rw [crs_x]
  rcases hu with hu | ⟨hu, hu2⟩
  · exact Int.add_pos_of_pos_of_nonneg (mul_pos' hu h2) (mul_nn (lp_nn hw) h1)
  · have e : crs u v = -(u.2 * v.1) := by unfold crs; rw [hu]; grind
    have := mul_pos' hu2 hvx
    omega
/-- in a row, not between: not on two sides -/
theorem dot_nn {u v : Pt} (hu : lp u ∨ u = (0, 0)) (hv : lp v ∨ v = (0, 0)) (h : crs u v = 0) : 0 ≤ u.1 * v.1 + u.2 * v.2 := by
  rcases hu with hu | rfl
  · rcases hv with hv | rfl
    · unfold crs at h
      rcases hu with hu | ⟨hu, hu2⟩
      · rcases hv with hv | ⟨hv, hv2⟩
        · have a1 := mul_pos' hu hv
          rcases Int.lt_trichotomy u.2 0 with k | k | k
          · have h1 := Int.mul_neg_of_neg_of_pos k hv
            have h2 : v.2 < 0 := by
              rcases Int.lt_trichotomy v.2 0 with z | z | z
              · exact z
              · rw [z] at h; omega
              · have := mul_pos' hu z; omega
            have := Int.mul_pos_of_neg_of_neg k h2
            omega
          · rw [k]; omega
          · have h1 := mul_pos' k hv
            have h2 : 0 < v.2 := pos_of_mul hu (by omega)
            have := mul_pos' k h2
            omega
        · rw [hv] at h
          have := mul_pos' hu hv2
          omega
      · rcases hv with hv | ⟨hv, hv2⟩
        · have := mul_pos' hu2 hv
          rw [hu] at h
          omega
        · have := mul_pos' hu2 hv2
          rw [hu, hv]
          omega
    · simp
  · simp
end T
/-! plain geometry: chains that rise to the right, and a point added behind all -/
namespace T
/-- s = 1: the lower chain; s = -1: the upper one -/
def sgnd (s : Int) : Prop := s = 1 ∨ s = -1
def Ar (s : Int) (a b c : Pt) : Int := s * area a b c
def Cr (s : Int) (u v : Pt) : Int := s * crs u v
theorem cr_neg (s : Int) (u v : Pt) : Cr s v u = -Cr s u v := by unfold Cr; rw [crs_neg]; grind
theorem cr_vec (s : Int) (u : Pt) (a b : Pt) : Cr s u (vec b a) = -Cr s u (vec a b) := by unfold Cr; rw [crs_vec]; grind
theorem ar_cr (s : Int) (a b c : Pt) : Ar s a b c = Cr s (vec a b) (vec a c) := rfl
theorem ar_cr2 (s : Int) (a b c : Pt) : Ar s a b c = Cr s (vec a b) (vec b c) := by unfold Ar Cr; rw [area_crs2]
theorem cr_le {s : Int} (hs : sgnd s) {u v w : Pt} (hu : lp u) (hv : lp v) (hw : lp w) (h1 : 0 ≤ Cr s u v) (h2 : 0 ≤ Cr s v w) : 0 ≤ Cr s u w := by
  unfold Cr at *
  rcases hs with rfl | rfl
  · rw [Int.one_mul] at *
    exact le_le hu hv hw h1 h2
  · have := le_le hw hv hu (u := w) (v := v) (w := u) (by rw [crs_neg]; omega) (by rw [crs_neg]; omega)
    rw [crs_neg] at this
    omega
theorem cr_ltle {s : Int} (hs : sgnd s) {u v w : Pt} (hu : lp u) (hv : lp v) (hw : lp w) (h1 : 0 < Cr s u v) (h2 : 0 ≤ Cr s v w) : 0 < Cr s u w := by
  unfold Cr at *
  rcases hs with rfl | rfl
  · rw [Int.one_mul] at *
    exact lt_le hu hv hw h1 h2
  · have := le_lt hw hv hu (u := w) (v := v) (w := u) (by rw [crs_neg]; omega) (by rw [crs_neg]; omega)
    rw [crs_neg] at this
    omega
theorem cr_lelt {s : Int} (hs : sgnd s) {u v w : Pt} (hu : lp u) (hv : lp v) (hw : lp w) (h1 : 0 ≤ Cr s u v) (h2 : 0 < Cr s v w) : 0 < Cr s u w := by
  unfold Cr at *
  rcases hs with rfl | rfl
  · rw [Int.one_mul] at *
    exact le_lt hu hv hw h1 h2
  · have := lt_le hw hv hu (u := w) (v := v) (w := u) (by rw [crs_neg]; omega) (by rw [crs_neg]; omega)
    rw [crs_neg] at this
    omega
/-- those that stand behind one another -/
def prs : List Int → List (Int × Int)
  | a :: b :: t => (a, b) :: prs (b :: t)
  | _ => []
theorem prs_cons (a b : Int) (t : List Int) : prs (a :: b :: t) = (a, b) :: prs (b :: t) := rfl
theorem prs_app : ∀ (P : List Int) (c : Int) (Q : List Int), prs (P ++ c :: Q) = prs (P ++ [c]) ++ prs (c :: Q)
  | [], c, Q => rfl
  | [a], c, Q => rfl
  | a :: b :: P, c, Q => by
    show (a, b) :: prs ((b :: P) ++ c :: Q) = ((a, b) :: prs ((b :: P) ++ [c])) ++ _
    rw [prs_app (b :: P) c Q]
    rfl
theorem prs_mem : ∀ {C : List Int} {e : Int × Int}, e ∈ prs C → ∃ P Q, C = P ++ e.1 :: e.2 :: Q
  | a :: b :: t, e, h => by
    rcases List.mem_cons.mp (show e ∈ (a, b) :: prs (b :: t) from h) with rfl | h
    · exact ⟨[], t, rfl⟩
    · obtain ⟨P, Q, e'⟩ := prs_mem h
      exact ⟨a :: P, Q, by rw [e']; rfl⟩
theorem prs_of {P Q : List Int} {a b : Int} : (a, b) ∈ prs (P ++ a :: b :: Q) := by
  rw [prs_app]
  exact List.mem_append.mpr (.inr (List.mem_cons_self ..))
/-- a chain over the points of S -/
structure Chain (s : Int) (p : Int → Pt) (S : Int → Prop) (C : List Int) : Prop where
  up : C.Pairwise fun a b => lx (p a) (p b)
  inS : ∀ x ∈ C, S x
  sup : ∀ e ∈ prs C, ∀ x, S x → 0 ≤ Ar s (p e.1) (p e.2) (p x)
  flat : ∀ e ∈ prs C, ∀ x, S x → Ar s (p e.1) (p e.2) (p x) = 0 → x ∈ C ∧ ¬ (lx (p e.1) (p x) ∧ lx (p x) (p e.2))
  lo : ∀ x, S x → ∀ c P, C = c :: P → ¬ lx (p x) (p c)
  hi : ∀ x, S x → ∀ c P, C = P ++ [c] → ¬ lx (p c) (p x)
section
variable {s : Int} {p : Int → Pt} {S : Int → Prop} {C : List Int} {q : Int}
/-- once seen from q, always -/
theorem seen_on (hs : sgnd s) (hq : ∀ x, S x → lx (p x) (p q)) : ∀ {a b : Int} {t : List Int}, Chain s p S C → (∃ P, C = P ++ a :: b :: t) → Ar s (p a) (p b) (p q) < 0 → ∀ e ∈ prs (a :: b :: t), Ar s (p e.1) (p e.2) (p q) < 0
  | a, b, [], H, ⟨P, eC⟩, h, e, he => by
    rcases List.mem_cons.mp (show e ∈ [(a, b)] from he) with rfl | he
    · exact h
    · cases he
  | a, b, c :: t, H, ⟨P, eC⟩, h, e, he => by
    rcases List.mem_cons.mp (show e ∈ (a, b) :: prs (b :: c :: t) from he) with rfl | he
    · exact h
    · refine seen_on hs hq (a := b) (b := c) (t := t) H ⟨P ++ [a], by rw [eC]; simp⟩ ?_ e he
      have hc : c ∈ C := by rw [eC]; simp
      have hb : b ∈ C := by rw [eC]; simp
      have hpw := H.up
      rw [eC] at hpw
      have hp2 := (List.pairwise_append.mp hpw).2.1
      have ab : lx (p a) (p b) := (List.pairwise_cons.mp hp2).1 b (List.mem_cons_self ..)
      have bc : lx (p b) (p c) := (List.pairwise_cons.mp (List.pairwise_cons.mp hp2).2).1 c (List.mem_cons_self ..)
      have s1 := H.sup (a, b) (by rw [eC]; exact prs_of) c (H.inS c hc)
      rw [ar_cr2] at s1 h
      have h' : 0 < Cr s (vec (p b) (p q)) (vec (p a) (p b)) := by rw [cr_neg]; omega
      have r := cr_ltle hs (lp_vec.mpr (hq b (H.inS b hb))) (lp_vec.mpr ab) (lp_vec.mpr bc) h' s1
      rw [ar_cr, cr_neg]
      omega
/-- where the seen part begins -/
theorem split_at (hs : sgnd s) (hq : ∀ x, S x → lx (p x) (p q)) (H : Chain s p S C) : ∀ (D : List Int), D ≠ [] → (∃ P, C = P ++ D) → ∃ P c Q, D = P ++ c :: Q ∧ (∀ e ∈ prs (P ++ [c]), 0 ≤ Ar s (p e.1) (p e.2) (p q)) ∧ ∀ e ∈ prs (c :: Q), Ar s (p e.1) (p e.2) (p q) < 0
  | [], h, _ => absurd rfl h
  | [a], _, _ => ⟨[], a, [], rfl, fun e he => (nomatch he), fun e he => (nomatch he)⟩
  | a :: b :: t, _, ⟨P0, e0⟩ => by
    by_cases h : Ar s (p a) (p b) (p q) < 0
    · exact ⟨[], a, b :: t, rfl, fun e he => (nomatch he), seen_on hs hq H ⟨P0, e0⟩ h⟩
    · obtain ⟨P, c, Q, e1, h1, h2⟩ := split_at hs hq H (b :: t) (by simp) ⟨P0 ++ [a], by rw [e0]; simp⟩
      refine ⟨a :: P, c, Q, by rw [e1]; rfl, fun e he => ?_, h2⟩
      have hd : ∃ T, P ++ [c] = b :: T := by
        cases P with
        | nil => cases e1; exact ⟨[], rfl⟩
        | cons x P' => cases e1; exact ⟨_, rfl⟩
      obtain ⟨T, eT⟩ := hd
      rw [List.cons_append, eT, prs_cons] at he
      rcases List.mem_cons.mp he with rfl | he
      · exact Int.not_lt.mp h
      · exact h1 e (by rw [eT]; exact he)
/-- the chain with q behind it -/
theorem Chain.step (hs : sgnd s) (inj : ∀ x y, S x → S y → p x = p y → x = y) (hq : ∀ x, S x → lx (p x) (p q)) {P Q : List Int} {c : Int} (H : Chain s p S (P ++ c :: Q)) (k : ∀ e ∈ prs (P ++ [c]), 0 ≤ Ar s (p e.1) (p e.2) (p q)) (v : ∀ e ∈ prs (c :: Q), Ar s (p e.1) (p e.2) (p q) < 0) :
    Chain s p (fun x => S x ∨ x = q) (P ++ [c, q]) ∧ ∀ x, S x → (lx (p c) (p x) → 0 < Ar s (p c) (p q) (p x)) := by
  have hcC : c ∈ P ++ c :: Q := by simp
  have Sc := H.inS c hcC
  have wq := lp_vec.mpr (hq c Sc)
  have up1 := (List.pairwise_append.mp H.up)
  have new1 : ∀ x, S x → lx (p c) (p x) → 0 < Ar s (p c) (p q) (p x) := fun x Sx hx => by
    cases Q with
    | nil => exact absurd hx (H.hi x Sx c P rfl)
    | cons d Q =>
      have v1 := v (c, d) (List.mem_cons_self ..)
      have s1 := H.sup (c, d) prs_of x Sx
      have cd : lx (p c) (p d) := (List.pairwise_cons.mp up1.2.1).1 d (List.mem_cons_self ..)
      rw [ar_cr] at v1 s1 ⊢
      have v2 : 0 < Cr s (vec (p c) (p q)) (vec (p c) (p d)) := by rw [cr_neg]; dsimp at v1; omega
      exact cr_ltle hs wq (lp_vec.mpr cd) (lp_vec.mpr hx) v2 s1
  have new2 : ∀ x, S x → lx (p x) (p c) → 0 ≤ Ar s (p c) (p q) (p x) ∧ (Ar s (p c) (p q) (p x) = 0 → x ∈ P) := fun x Sx hx => by
    rcases List.eq_nil_or_concat P with rfl | ⟨P', b, rfl⟩
    · exact absurd hx (H.lo x Sx c Q rfl)
    · rw [List.concat_eq_append] at *
      have eb : (b, c) ∈ prs (P' ++ [b] ++ [c]) := by rw [List.append_assoc]; exact prs_of
      have k1 := k (b, c) eb
      have eb2 : (b, c) ∈ prs (P' ++ [b] ++ c :: Q) := by rw [List.append_assoc]; exact prs_of
      have s1 := H.sup (b, c) eb2 x Sx
      have bc : lx (p b) (p c) := up1.2.2 b (by simp) c (List.mem_cons_self ..)
      rw [ar_cr2] at k1 s1
      have s2 : 0 ≤ Cr s (vec (p x) (p c)) (vec (p b) (p c)) := by rw [cr_neg, cr_vec]; dsimp at s1; omega
      have r := cr_le hs (lp_vec.mpr hx) (lp_vec.mpr bc) wq s2 k1
      have e1 : Ar s (p c) (p q) (p x) = Cr s (vec (p x) (p c)) (vec (p c) (p q)) := by rw [ar_cr]; unfold Cr crs vec; grind
      refine ⟨by rw [e1]; exact r, fun z => ?_⟩
      have z2 : Cr s (vec (p x) (p c)) (vec (p b) (p c)) = 0 := by
        rcases Int.lt_or_eq_of_le s2 with z3 | z3
        · have := cr_ltle hs (lp_vec.mpr hx) (lp_vec.mpr bc) wq z3 k1
          omega
        · exact z3.symm
      have z4 : Ar s (p b) (p c) (p x) = 0 := by rw [ar_cr2, cr_vec, cr_neg]; omega
      have hm := (H.flat (b, c) eb2 x Sx z4).1
      rcases List.mem_append.mp hm with hm | hm
      · exact hm
      · rcases List.mem_cons.mp hm with rfl | hm
        · exact absurd hx (lx_irrefl _)
        · exact (lx_asymm hx ((List.pairwise_cons.mp up1.2.1).1 x hm)).elim
  have old : ∀ e ∈ prs (P ++ [c]), e ∈ prs (P ++ c :: Q) := fun e he => by rw [prs_app]; exact List.mem_append.mpr (.inl he)
  have mem1 : ∀ e ∈ prs (P ++ [c]), S e.1 ∧ S e.2 := fun e he => by
    obtain ⟨P1, Q1, e1⟩ := prs_mem (old e he)
    exact ⟨H.inS _ (by rw [e1]; simp), H.inS _ (by rw [e1]; simp)⟩
  have edge : ∀ e ∈ prs (P ++ [c, q]), e ∈ prs (P ++ [c]) ∨ e = (c, q) := fun e he => by
    rw [prs_app] at he
    rcases List.mem_append.mp he with he | he
    · exact .inl he
    · rcases List.mem_cons.mp (show e ∈ [(c, q)] from he) with h | h
      · exact .inr h
      · cases h
  refine ⟨⟨?_, ?_, ?_, ?_, ?_, ?_⟩, new1⟩
  · rw [show P ++ [c, q] = (P ++ [c]) ++ [q] by simp]
    have hpc : (P ++ [c]).Pairwise fun a b => lx (p a) (p b) := by
      have := H.up
      rw [show P ++ c :: Q = (P ++ [c]) ++ Q by simp] at this
      exact (List.pairwise_append.mp this).1
    refine List.pairwise_append.mpr ⟨hpc, List.pairwise_singleton .., fun a ha b hb => ?_⟩
    rw [List.mem_singleton.mp hb]
    exact hq a (H.inS a (by rcases List.mem_append.mp ha with h | h; exact List.mem_append.mpr (.inl h); rw [List.mem_singleton.mp h]; exact hcC))
  · intro x hx
    rcases List.mem_append.mp hx with h | h
    · exact .inl (H.inS x (List.mem_append.mpr (.inl h)))
    · rcases List.mem_cons.mp h with rfl | h
      · exact .inl Sc
      · exact .inr (List.mem_singleton.mp h)
  · intro e he x hx
    rcases edge e he with he' | rfl
    · rcases hx with Sx | rfl
      · exact H.sup e (old e he') x Sx
      · exact k e he'
    · rcases hx with Sx | rfl
      · by_cases h1 : lx (p c) (p x)
        · exact Int.le_of_lt (new1 x Sx h1)
        · by_cases h2 : lx (p x) (p c)
          · exact (new2 x Sx h2).1
          · rw [lx_total h1 h2]
            unfold Ar
            rw [area_aba]
            omega
      · unfold Ar
        rw [area_abb]
        omega
  · intro e he x hx hz
    rcases edge e he with he' | rfl
    · rcases hx with Sx | rfl
      · obtain ⟨h1, h2⟩ := H.flat e (old e he') x Sx hz
        refine ⟨?_, h2⟩
        rcases List.mem_append.mp h1 with h1 | h1
        · exact List.mem_append.mpr (.inl h1)
        · rcases List.mem_cons.mp h1 with rfl | h1
          · simp
          · exfalso
            -- x stands in the seen part
            obtain ⟨Q1, Q2, eQ⟩ := List.append_of_mem h1
            obtain ⟨z, hz1, hz2⟩ : ∃ z, (z, x) ∈ prs (c :: Q) ∧ S z := by
              rcases List.eq_nil_or_concat Q1 with rfl | ⟨Q1', z, rfl⟩
              · exact ⟨c, by rw [eQ]; exact List.mem_cons_self .., Sc⟩
              · rw [List.concat_eq_append] at eQ
                refine ⟨z, ?_, H.inS z (by rw [eQ]; simp)⟩
                rw [eQ, show c :: (Q1' ++ [z] ++ x :: Q2) = (c :: Q1') ++ z :: x :: Q2 by simp]
                exact prs_of
            have v1 := v _ hz1
            have zx : lx (p z) (p x) := by
              obtain ⟨P1, P2, e1⟩ := prs_mem hz1
              have := up1.2.1
              rw [e1] at this
              exact (List.pairwise_cons.mp (List.pairwise_append.mp this).2.1).1 x (List.mem_cons_self ..)
            have s1 := H.sup e (old e he') z hz2
            have k1 := k e he'
            have ab : lx (p e.1) (p e.2) := by
              obtain ⟨P1, P2, e1⟩ := prs_mem (old e he')
              have := H.up
              rw [e1] at this
              exact (List.pairwise_cons.mp (List.pairwise_append.mp this).2.1).1 e.2 (List.mem_cons_self ..)
            rw [ar_cr2] at v1 s1 k1 hz
            dsimp at v1
            have w1 : 0 < Cr s (vec (p x) (p q)) (vec (p z) (p x)) := by rw [cr_neg]; omega
            have u1 : Cr s (vec (p e.1) (p e.2)) (vec (p e.2) (p q)) = Cr s (vec (p e.1) (p e.2)) (vec (p e.2) (p x)) + Cr s (vec (p e.1) (p e.2)) (vec (p x) (p q)) := by unfold Cr crs vec; grind
            have u2 : Cr s (vec (p e.1) (p e.2)) (vec (p e.2) (p z)) = Cr s (vec (p e.1) (p e.2)) (vec (p e.2) (p x)) - Cr s (vec (p e.1) (p e.2)) (vec (p z) (p x)) := by unfold Cr crs vec; grind
            have := cr_lelt hs (lp_vec.mpr ab) (lp_vec.mpr (hq x Sx)) (lp_vec.mpr zx) (by omega) w1
            omega
      · refine ⟨by simp, fun ⟨_, h2⟩ => lx_asymm h2 (hq _ (mem1 e he').2)⟩
    · rcases hx with Sx | rfl
      · by_cases h1 : lx (p c) (p x)
        · have := new1 x Sx h1
          dsimp at hz
          omega
        · refine ⟨?_, fun ⟨h2, _⟩ => h1 h2⟩
          by_cases h2 : lx (p x) (p c)
          · exact List.mem_append.mpr (.inl ((new2 x Sx h2).2 hz))
          · rw [inj x c Sx Sc (lx_total h2 h1)]
            simp
      · exact ⟨by simp, fun ⟨_, h2⟩ => lx_irrefl _ h2⟩
  · intro x hx c' P' e'
    have hc' : c' ∈ P ++ c :: Q ∧ ∃ P'', P ++ c :: Q = c' :: P'' := by
      cases P with
      | nil => cases e'; exact ⟨hcC, _, rfl⟩
      | cons h t => cases e'; exact ⟨by simp, _, rfl⟩
    obtain ⟨m, P'', e2⟩ := hc'
    rcases hx with Sx | rfl
    · exact H.lo x Sx c' P'' e2
    · exact fun h => lx_asymm h (hq _ (H.inS _ m))
  · intro x hx c' P' e'
    have e3 : (P ++ [c]) ++ [q] = P' ++ [c'] := by rw [← e']; simp
    have e4 := (List.append_inj' e3 rfl).2
    cases e4
    rcases hx with Sx | rfl
    · exact fun h => lx_asymm h (hq x Sx)
    · exact lx_irrefl _
end
end T
/-! plain geometry: the hull as two chains, a point added behind all -/
namespace T
def swp (e : Int × Int) : Int × Int := (e.2, e.1)
theorem prs_rev : ∀ C : List Int, prs C.reverse = ((prs C).map swp).reverse
  | [] => rfl
  | [a] => rfl
  | a :: b :: t => by
    have ih := prs_rev (b :: t)
    have e : (a :: b :: t).reverse = t.reverse ++ b :: [a] := by simp
    rw [e, prs_app, prs_cons a b t, List.map_cons, List.reverse_cons, ← ih]
    congr 1
    simp
/-- round a list: each and the next, the last and the first -/
def cyc (A : List Int) : List (Int × Int) := prs (A ++ [A.headD 0])
structure Hull (p : Int → Pt) (S : Int → Prop) (U Lo : List Int) (l r : Int) : Prop where
  low : Chain 1 p S (l :: Lo ++ [r])
  upp : Chain (-1) p S (l :: U.reverse ++ [r])
  nd : (U ++ l :: Lo ++ [r]).Nodup
  fat : U ≠ [] ∨ Lo ≠ []
section
variable {p : Int → Pt} {S : Int → Prop} {U Lo : List Int} {l r q : Int}
theorem Hull.seen (H : Hull p S U Lo l r) (hq : ∀ x, S x → lx (p x) (p q)) {b b2 : Int} {P P2 : List Int} (e1 : l :: Lo ++ [r] = P ++ [b, r]) (e2 : l :: U.reverse ++ [r] = P2 ++ [b2, r]) (k1 : 0 ≤ Ar 1 (p b) (p r) (p q)) (k2 : 0 ≤ Ar (-1) (p b2) (p r) (p q)) : False := by
  have i1 : l :: Lo = P ++ [b] := List.append_inj_left' (show (l :: Lo) ++ [r] = (P ++ [b]) ++ [r] by simpa using e1) rfl
  have i2 : l :: U.reverse = P2 ++ [b2] := List.append_inj_left' (show (l :: U.reverse) ++ [r] = (P2 ++ [b2]) ++ [r] by simpa using e2) rfl
  have mb : b ∈ l :: Lo := by rw [i1]; simp
  have mb2 : b2 ∈ l :: U.reverse := by rw [i2]; simp
  have Sb := H.low.inS b (by simp [List.mem_append.mpr (.inl mb)] <;> (rcases List.mem_cons.mp mb with h | h <;> simp [h]))
  have Sb2 := H.upp.inS b2 (by rcases List.mem_cons.mp mb2 with h | h <;> simp_all)
  have Sr := H.low.inS r (by simp)
  have pe1 : (b, r) ∈ prs (l :: Lo ++ [r]) := by rw [e1]; exact prs_of
  have pe2 : (b2, r) ∈ prs (l :: U.reverse ++ [r]) := by rw [e2]; exact prs_of
  have br : lx (p b) (p r) := by
    have := H.low.up
    rw [e1] at this
    exact (List.pairwise_cons.mp (List.pairwise_append.mp this).2.1).1 r (List.mem_cons_self ..)
  have b2r : lx (p b2) (p r) := by
    have := H.upp.up
    rw [e2] at this
    exact (List.pairwise_cons.mp (List.pairwise_append.mp this).2.1).1 r (List.mem_cons_self ..)
  have s1 := H.low.sup _ pe1 b2 Sb2
  rw [ar_cr2] at k1 k2 s1
  unfold Cr at k1 k2 s1
  dsimp at s1
  rw [crs_vec] at s1
  have t1 : 0 ≤ crs (vec (p r) (p q)) (vec (p b2) (p r)) := by rw [crs_neg]; omega
  have t2 := le_le (lp_vec.mpr br) (lp_vec.mpr (hq r Sr)) (lp_vec.mpr b2r) (by omega) t1
  have z : crs (vec (p b) (p r)) (vec (p b2) (p r)) = 0 := by omega
  have f1 := (H.low.flat _ pe1 b2 Sb2 (by rw [ar_cr2]; unfold Cr; dsimp; rw [crs_vec]; omega)).1
  have f2 := (H.upp.flat _ pe2 b Sb (by rw [ar_cr2]; unfold Cr; dsimp; rw [crs_vec, crs_neg]; omega)).1
  have nd := H.nd
  have ndl : (l :: Lo ++ [r]).Nodup := by
    have := (List.nodup_append.mp (show (U ++ (l :: Lo ++ [r])).Nodup by simpa using nd)).2.1
    exact this
  have dis : ∀ x ∈ U, x ∉ l :: Lo ++ [r] := fun x hx hm => (List.nodup_append.mp (show (U ++ (l :: Lo ++ [r])).Nodup by simpa using nd)).2.2 x hx x hm rfl
  have hb2 : b2 = l := by
    rcases List.mem_cons.mp mb2 with h | h
    · exact h
    · exact absurd f1 (dis b2 (List.mem_reverse.mp h))
  have hb : b = l := by
    rcases List.mem_cons.mp mb with h | h
    · exact h
    · rcases List.mem_cons.mp (show b ∈ l :: (U.reverse ++ [r]) from f2) with g | g
      · exact g
      · rcases List.mem_append.mp g with g | g
        · exact absurd (show b ∈ l :: Lo ++ [r] by simp [h]) (dis b (List.mem_reverse.mp g))
        · rw [List.mem_singleton.mp g] at br
          exact absurd br (lx_irrefl _)
  have hLo : Lo = [] := by
    rcases List.eq_nil_or_concat Lo with h | ⟨L', y, rfl⟩
    · exact h
    · rw [List.concat_eq_append] at *
      have : l :: L' = P ∧ [y] = [b] := List.append_inj' (show (l :: L') ++ [y] = P ++ [b] by simpa using i1) rfl
      have ey : y = b := by simpa using this.2
      have := (List.nodup_cons.mp ndl).1
      rw [hb] at ey
      exact absurd (show l ∈ L' ++ [y] ++ [r] by simp [ey]) (by simpa using this)
  have hU : U = [] := by
    rcases List.eq_nil_or_concat U.reverse with h | ⟨L', y, h⟩
    · simpa using h
    · rw [List.concat_eq_append] at h
      rw [h] at i2
      have : l :: L' = P2 ∧ [y] = [b2] := List.append_inj' (show (l :: L') ++ [y] = P2 ++ [b2] by simpa using i2) rfl
      have ey : y = b2 := by simpa using this.2
      have hy : y ∈ U := List.mem_reverse.mp (by rw [h]; simp)
      rw [ey, hb2] at hy
      exact absurd (show l ∈ l :: Lo ++ [r] by simp) (dis l hy)
  rcases H.fat with h | h
  · exact h hU
  · exact h hLo
theorem Hull.kept (H : Hull p S U Lo l r) (hq : ∀ x, S x → lx (p x) (p q)) {d d2 : Int} {Q Q2 : List Int} (e1 : l :: Lo ++ [r] = l :: d :: Q) (e2 : l :: U.reverse ++ [r] = l :: d2 :: Q2) (k1 : Ar 1 (p l) (p d) (p q) < 0) (k2 : Ar (-1) (p l) (p d2) (p q) < 0) : False := by
  have Sl := H.low.inS l (by simp)
  have Sd2 := H.upp.inS d2 (by rw [e2]; simp)
  have s1 := H.low.sup (l, d) (by rw [e1]; exact List.mem_cons_self ..) d2 Sd2
  have ld : lx (p l) (p d) := by
    have := H.low.up
    rw [e1] at this
    exact (List.pairwise_cons.mp this).1 d (List.mem_cons_self ..)
  have ld2 : lx (p l) (p d2) := by
    have := H.upp.up
    rw [e2] at this
    exact (List.pairwise_cons.mp this).1 d2 (List.mem_cons_self ..)
  rw [ar_cr] at k1 k2 s1
  unfold Cr at k1 k2 s1
  dsimp at s1
  have t1 : 0 < crs (vec (p l) (p q)) (vec (p l) (p d)) := by rw [crs_neg]; omega
  have t2 := lt_le (lp_vec.mpr ld2) (lp_vec.mpr (hq l Sl)) (lp_vec.mpr ld) (by omega) (Int.le_of_lt t1)
  rw [crs_neg] at t2
  omega
theorem cons_of {P : List Int} {c l : Int} {M Q : List Int} (e : l :: M = P ++ c :: Q) : ∃ L', P ++ [c] = l :: L' ∧ M = L' ++ Q := by
  cases P with
  | nil => cases e; exact ⟨[], rfl, rfl⟩
  | cons h P' => cases e; exact ⟨P' ++ [c], rfl, by simp⟩
theorem filter_all {α : Type} {f : α → Bool} {l : List α} (h : ∀ x ∈ l, f x = true) : l.filter f = l := List.filter_eq_self.mpr h
theorem filter_none {α : Type} {f : α → Bool} {l : List α} (h : ∀ x ∈ l, f x = false) : l.filter f = [] := List.filter_eq_nil_iff.mpr fun x hx => by rw [h x hx]; exact Bool.false_ne_true
/-- not seen from q -/
def keep (p : Int → Pt) (q : Int) (e : Int × Int) : Bool := decide (0 ≤ area (p e.1) (p e.2) (p q))
theorem Hull.step (H : Hull p S U Lo l r) (inj : ∀ x y, S x → S y → p x = p y → x = y) (hq : ∀ x, S x → lx (p x) (p q)) :
    ∃ U' Lo' X Y, Hull p (fun x => S x ∨ x = q) U' Lo' l q ∧ (cyc (U ++ l :: Lo ++ [r])).filter (keep p q) = X ++ Y ∧ Y ++ X = prs (U' ++ l :: Lo') ∧ Y ≠ [] := by
  obtain ⟨P, c, Q, eL, kL, vL⟩ := split_at (.inl rfl) hq H.low (l :: Lo ++ [r]) (by simp) ⟨[], rfl⟩
  obtain ⟨P2, c2, Q2, eU, kU, vU⟩ := split_at (.inr rfl) hq H.upp (l :: U.reverse ++ [r]) (by simp) ⟨[], rfl⟩
  have cL := (Chain.step (.inl rfl) inj hq (by rw [← eL]; exact H.low) kL vL).1
  have cU := (Chain.step (.inr rfl) inj hq (by rw [← eU]; exact H.upp) kU vU).1
  obtain ⟨Lo', l1, l2⟩ := cons_of (M := Lo ++ [r]) eL
  obtain ⟨R', u1, u2⟩ := cons_of (M := U.reverse ++ [r]) eU
  have qS : ∀ x, S x → x ≠ q := fun x h e => lx_irrefl _ (by have := hq x h; rw [e] at this; exact this)
  have some_seen : Q = [] → Q2 = [] → False := fun h1 h2 => by
    subst h1 h2
    have hp : ∃ P' b, P = P' ++ [b] := by
      rcases List.eq_nil_or_concat P with rfl | ⟨P', b, h⟩
      · exact absurd (congrArg List.length eL) (by simp)
      · exact ⟨P', b, by rw [h, List.concat_eq_append]⟩
    have hp2 : ∃ P' b, P2 = P' ++ [b] := by
      rcases List.eq_nil_or_concat P2 with rfl | ⟨P', b, h⟩
      · exact absurd (congrArg List.length eU) (by simp)
      · exact ⟨P', b, by rw [h, List.concat_eq_append]⟩
    obtain ⟨P', b, rfl⟩ := hp
    obtain ⟨P2', b2, rfl⟩ := hp2
    have cr : c = r := by
      have := (List.append_inj' (show (l :: Lo) ++ [r] = (P' ++ [b]) ++ [c] by simpa using eL) rfl).2
      simpa using this.symm
    have cr2 : c2 = r := by
      have := (List.append_inj' (show (l :: U.reverse) ++ [r] = (P2' ++ [b2]) ++ [c2] by simpa using eU) rfl).2
      simpa using this.symm
    subst cr
    subst cr2
    exact H.seen hq (P := P') (P2 := P2') (by simpa using eL) (by simpa using eU) (kL (b, c2) (by rw [List.append_assoc]; exact prs_of)) (kU (b2, c2) (by rw [List.append_assoc]; exact prs_of))
  have fat : R' ≠ [] ∨ Lo' ≠ [] := by
    by_cases h1 : Lo' = []
    · by_cases h2 : R' = []
      · exfalso
        subst h1 h2
        have hc : P = [] ∧ c = l := by
          cases P with
          | nil => exact ⟨rfl, by simpa using l1⟩
          | cons h t => exact absurd (congrArg List.length l1) (by simp)
        have hc2 : P2 = [] ∧ c2 = l := by
          cases P2 with
          | nil => exact ⟨rfl, by simpa using u1⟩
          | cons h t => exact absurd (congrArg List.length u1) (by simp)
        obtain ⟨rfl, rfl⟩ := hc
        obtain ⟨rfl, rfl⟩ := hc2
        cases Q with
        | nil => exact absurd (congrArg List.length l2) (by simp)
        | cons d Q =>
          cases Q2 with
          | nil => exact absurd (congrArg List.length u2) (by simp)
          | cons d2 Q2 => exact H.kept hq eL eU (vL (_, d) (List.mem_cons_self ..)) (vU (_, d2) (List.mem_cons_self ..))
      · exact .inl h2
    · exact .inr h1
  have eW : r :: (U ++ l :: Lo ++ [r]) = Q2.reverse ++ (R'.reverse ++ l :: Lo') ++ Q := by
    have h1 : r :: U = Q2.reverse ++ R'.reverse := by
      have := congrArg List.reverse u2
      simpa using this
    have h2 : r :: (U ++ l :: Lo ++ [r]) = (r :: U) ++ l :: (Lo ++ [r]) := by simp
    rw [h2, h1, l2]
    simp
  have ndG : (R'.reverse ++ l :: Lo').Nodup := by
    have nd := H.nd
    cases hQ2 : Q2 with
    | nil =>
      have hQ : Q ≠ [] := fun h => some_seen h hQ2
      obtain ⟨Q0, y, hy⟩ : ∃ Q0 y, Q = Q0 ++ [y] := by
        rcases List.eq_nil_or_concat Q with h | ⟨Q0, y, h⟩
        · exact absurd h hQ
        · exact ⟨Q0, y, by rw [h, List.concat_eq_append]⟩
      have e3 := List.append_inj' (show Lo ++ [r] = (Lo' ++ Q0) ++ [y] by rw [l2, hy]; simp) rfl
      have e4 : R'.reverse = r :: U := by
        have := congrArg List.reverse u2
        rw [hQ2] at this
        simpa using this.symm
      rw [e4]
      rw [e3.1] at nd
      refine List.nodup_cons.mpr ⟨fun hm => ?_, ?_⟩
      · have := (List.nodup_append.mp nd).2.2 r (by
          rcases List.mem_append.mp hm with h | h
          · exact List.mem_append.mpr (.inl h)
          · exact List.mem_append.mpr (.inr (by rcases List.mem_cons.mp h with h | h; exact h ▸ List.mem_cons_self ..; exact List.mem_cons_of_mem _ (List.mem_append.mpr (.inl h))))) r (by simp)
        exact this rfl
      · refine List.Nodup.sublist ?_ nd
        rw [show U ++ l :: (Lo' ++ Q0) ++ [r] = (U ++ l :: Lo') ++ (Q0 ++ [r]) by simp]
        exact List.sublist_append_left ..
    | cons y T =>
      obtain ⟨T', z, hz⟩ : ∃ T' z, y :: T = T' ++ [z] := by
        rcases List.eq_nil_or_concat (y :: T) with h | ⟨Q0, y', h⟩
        · cases h
        · exact ⟨Q0, y', by rw [h, List.concat_eq_append]⟩
      have e3 : r :: U = (z :: T'.reverse) ++ R'.reverse := by
        have := congrArg List.reverse u2
        rw [hQ2, hz] at this
        simpa using this
      have e4 : U = T'.reverse ++ R'.reverse := by cases e3; rfl
      refine List.Nodup.sublist ?_ nd
      rw [e4, show T'.reverse ++ R'.reverse ++ l :: Lo ++ [r] = T'.reverse ++ (R'.reverse ++ l :: (Lo ++ [r])) by simp, l2, show R'.reverse ++ l :: (Lo' ++ Q) = (R'.reverse ++ l :: Lo') ++ Q by simp]
      exact (List.sublist_append_left ..).trans (List.sublist_append_right ..)
  have hull : Hull p (fun x => S x ∨ x = q) R'.reverse Lo' l q := by
    refine ⟨?_, ?_, ?_, ?_⟩
    · rw [show P ++ [c, q] = (P ++ [c]) ++ [q] by simp, l1] at cL
      exact cL
    · rw [List.reverse_reverse]
      rw [show P2 ++ [c2, q] = (P2 ++ [c2]) ++ [q] by simp, u1] at cU
      exact cU
    · refine List.nodup_append.mpr ⟨ndG, by simp, fun a ha b hb e => ?_⟩
      rw [List.mem_singleton.mp hb] at e
      refine qS a ?_ e
      have ma : a ∈ r :: (U ++ l :: Lo ++ [r]) := by rw [eW]; exact List.mem_append.mpr (.inl (List.mem_append.mpr (.inr ha)))
      rcases List.mem_cons.mp ma with rfl | ma
      · exact H.low.inS _ (by simp)
      · rcases List.mem_append.mp (show a ∈ U ++ (l :: Lo ++ [r]) by simpa using ma) with h | h
        · exact H.upp.inS a (by simp [h])
        · exact H.low.inS a h
    · rcases fat with h | h
      · exact .inl (by simpa using h)
      · exact .inr h
  have g1 : R'.reverse ++ l :: Lo' = c2 :: (P2.reverse ++ Lo') := by
    have := congrArg List.reverse u1
    have e : R'.reverse ++ [l] = c2 :: P2.reverse := by simpa using this.symm
    rw [show R'.reverse ++ l :: Lo' = (R'.reverse ++ [l]) ++ Lo' by simp, e]
    rfl
  have g2 : R'.reverse ++ l :: Lo' = (R'.reverse ++ P) ++ [c] := by rw [← l1]; simp
  have fW : (prs (r :: (U ++ l :: Lo ++ [r]))).filter (keep p q) = prs (R'.reverse ++ l :: Lo') := by
    have d1 : prs (r :: (U ++ l :: Lo ++ [r])) = prs (Q2.reverse ++ [c2]) ++ (prs (R'.reverse ++ l :: Lo') ++ prs (c :: Q)) := by
      rw [eW, List.append_assoc, g1, List.cons_append, prs_app, ← List.cons_append, ← g1, g2, List.append_assoc (R'.reverse ++ P)]
      exact congrArg _ (prs_app _ c Q)
    rw [d1, List.filter_append, List.filter_append, filter_none (l := prs (Q2.reverse ++ [c2])), filter_none (l := prs (c :: Q)), filter_all (l := prs (R'.reverse ++ l :: Lo'))]
    · simp
    · intro e he
      rw [prs_app] at he
      refine decide_eq_true ?_
      rcases List.mem_append.mp he with he | he
      · have e1 : R'.reverse ++ [l] = (P2 ++ [c2]).reverse := by rw [u1]; simp
        rw [e1, prs_rev] at he
        obtain ⟨e', he', rfl⟩ := List.mem_map.mp (List.mem_reverse.mp he)
        have := kU e' he'
        unfold Ar at this
        unfold swp
        dsimp
        rw [area_flip]
        omega
      · rw [← l1] at he
        have := kL e he
        unfold Ar at this
        omega
    · intro e he
      have := vL e he
      unfold Ar at this
      exact decide_eq_false (by omega)
    · intro e he
      have e1 : Q2.reverse ++ [c2] = (c2 :: Q2).reverse := by simp
      rw [e1, prs_rev] at he
      obtain ⟨e', he', rfl⟩ := List.mem_map.mp (List.mem_reverse.mp he)
      have := vU e' he'
      unfold Ar at this
      refine decide_eq_false ?_
      unfold swp
      dsimp
      rw [area_flip]
      omega
  obtain ⟨h0, t0, e0⟩ : ∃ h0 t0, U ++ l :: Lo ++ [r] = h0 :: t0 := by
    cases U with
    | nil => exact ⟨l, _, rfl⟩
    | cons a b => exact ⟨a, _, rfl⟩
  have ec : cyc (U ++ l :: Lo ++ [r]) = prs (U ++ l :: Lo ++ [r]) ++ [(r, h0)] := by
    unfold cyc
    rw [show (U ++ l :: Lo ++ [r]).headD 0 = h0 by rw [e0]; rfl, show U ++ l :: Lo ++ [r] ++ [h0] = (U ++ l :: Lo) ++ r :: [h0] by simp, prs_app]
    rfl
  have ew : prs (r :: (U ++ l :: Lo ++ [r])) = (r, h0) :: prs (U ++ l :: Lo ++ [r]) := by
    rw [e0]
    rfl
  rw [ew] at fW
  rw [ec, List.filter_append]
  by_cases hk : keep p q (r, h0) = true
  · rw [List.filter_cons_of_pos hk] at fW
    exact ⟨R'.reverse, Lo', _, [(r, h0)], hull, by rw [List.filter_cons_of_pos hk]; rfl, fW, by simp⟩
  · rw [List.filter_cons_of_neg hk] at fW
    refine ⟨R'.reverse, Lo', [], (prs (U ++ l :: Lo ++ [r])).filter (keep p q), hull, by rw [List.filter_cons_of_neg hk, List.filter_nil, List.append_nil, List.nil_append], by rw [List.append_nil]; exact fW, ?_⟩
    rw [fW]
    intro z
    have : 2 ≤ (R'.reverse ++ l :: Lo').length := by
      rcases fat with h | h
      · have : 0 < R'.length := List.length_pos_iff.mpr h
        simp
        omega
      · have : 0 < Lo'.length := List.length_pos_iff.mpr h
        simp
        omega
    match hG : R'.reverse ++ l :: Lo', this with
    | a :: b :: t, _ =>
      rw [hG] at z
      cases z
end
end T
/-! plain geometry: the first triangles' hull; what a hull says of all points -/
namespace T
theorem prs_between {p : Int → Pt} {C : List Int} (h : C.Pairwise fun a b => lx (p a) (p b)) {e : Int × Int} (he : e ∈ prs C) {x : Int} (hx : x ∈ C) : ¬ (lx (p e.1) (p x) ∧ lx (p x) (p e.2)) := by
  obtain ⟨P, Q, rfl⟩ := prs_mem he
  intro ⟨h1, h2⟩
  have hp := List.pairwise_append.mp h
  rcases List.mem_append.mp hx with m | m
  · exact lx_asymm h1 (hp.2.2 x m e.1 (List.mem_cons_self ..))
  · rcases List.mem_cons.mp m with rfl | m
    · exact lx_irrefl _ h1
    · rcases List.mem_cons.mp m with rfl | m
      · exact lx_irrefl _ h2
      · exact lx_asymm h2 ((List.pairwise_cons.mp (List.pairwise_cons.mp hp.2.1).2).1 x m)
theorem prs_lx {p : Int → Pt} {C : List Int} (h : C.Pairwise fun a b => lx (p a) (p b)) {e : Int × Int} (he : e ∈ prs C) : lx (p e.1) (p e.2) := by
  obtain ⟨P, Q, rfl⟩ := prs_mem he
  exact (List.pairwise_cons.mp (List.pairwise_append.mp h).2.1).1 e.2 (List.mem_cons_self ..)
theorem prs_in {C : List Int} {e : Int × Int} (he : e ∈ prs C) : e.1 ∈ C ∧ e.2 ∈ C := by
  obtain ⟨P, Q, e'⟩ := prs_mem he
  rw [e']
  exact ⟨by simp, by simp⟩
section
variable {s : Int} {p : Int → Pt} {o0 o1 z : Int} {R : List Int}
/-- all in one row, and z beside it -/
theorem row_pos (hs : sgnd s) (up : (o0 :: o1 :: R ++ [z]).Pairwise fun a b => lx (p a) (p b)) (flat : ∀ x ∈ R, area (p o0) (p o1) (p x) = 0) (hz : 0 < Ar s (p o0) (p o1) (p z)) {a b : Int} (ha : a ∈ o0 :: o1 :: R) (hb : b ∈ o0 :: o1 :: R) (ab : lx (p a) (p b)) : 0 < Ar s (p a) (p b) (p z) := by
  have hp := List.pairwise_append.mp up
  have bz : lx (p b) (p z) := hp.2.2 b hb z (by simp)
  have d01 : lx (p o0) (p o1) := (List.pairwise_cons.mp hp.1).1 o1 (List.mem_cons_self ..)
  have f : ∀ x ∈ o0 :: o1 :: R, crs (vec (p o0) (p o1)) (vec (p o0) (p x)) = 0 := fun x hx => by
    rcases List.mem_cons.mp hx with rfl | hx
    · unfold crs vec; grind
    · rcases List.mem_cons.mp hx with rfl | hx
      · unfold crs; grind
      · have := flat x hx
        rwa [area_crs] at this
  have fa := f a ha
  have fb := f b hb
  have u0 : Cr s (vec (p a) (p b)) (vec (p o0) (p o1)) = 0 := by
    have : crs (vec (p a) (p b)) (vec (p o0) (p o1)) = crs (vec (p o0) (p o1)) (vec (p o0) (p a)) - crs (vec (p o0) (p o1)) (vec (p o0) (p b)) := by unfold crs vec; grind
    unfold Cr
    rw [this, fa, fb]
    simp
  have w0 : 0 < Cr s (vec (p o0) (p o1)) (vec (p b) (p z)) := by
    have : crs (vec (p o0) (p o1)) (vec (p b) (p z)) = crs (vec (p o0) (p o1)) (vec (p o0) (p z)) - crs (vec (p o0) (p o1)) (vec (p o0) (p b)) := by unfold crs vec; grind
    unfold Cr
    rw [this, fb, Int.sub_zero]
    exact hz
  rw [ar_cr2]
  exact cr_lelt hs (lp_vec.mpr ab) (lp_vec.mpr d01) (lp_vec.mpr bz) (by omega) w0
theorem chain_row (hs : sgnd s) (up : (o0 :: o1 :: R ++ [z]).Pairwise fun a b => lx (p a) (p b)) (flat : ∀ x ∈ R, area (p o0) (p o1) (p x) = 0) (hz : 0 < Ar s (p o0) (p o1) (p z)) : Chain s p (fun x => x ∈ o0 :: o1 :: R ++ [z]) (o0 :: o1 :: R ++ [z]) := by
  have hp := List.pairwise_append.mp up
  have rowflat : ∀ a ∈ o0 :: o1 :: R, ∀ b ∈ o0 :: o1 :: R, ∀ x ∈ o0 :: o1 :: R, area (p a) (p b) (p x) = 0 := fun a ha b hb x hx => by
    have d01 : lx (p o0) (p o1) := (List.pairwise_cons.mp hp.1).1 o1 (List.mem_cons_self ..)
    have f : ∀ x ∈ o0 :: o1 :: R, crs (vec (p o0) (p o1)) (vec (p o0) (p x)) = 0 := fun x hx => by
      rcases List.mem_cons.mp hx with rfl | hx
      · unfold crs vec; grind
      · rcases List.mem_cons.mp hx with rfl | hx
        · unfold crs; grind
        · have := flat x hx
          rwa [area_crs] at this
    have fa := f a ha
    have fb := f b hb
    have fx := f x hx
    have e : ∀ k : Int, (vec (p o0) (p o1)).1 * crs (vec (p a) (p b)) (vec (p a) (p x)) = 0 ∧ (vec (p o0) (p o1)).2 * crs (vec (p a) (p b)) (vec (p a) (p x)) = 0 := fun _ => by
      revert fa fb fx
      unfold crs vec
      dsimp
      intro fa fb fx
      constructor <;> grind
    obtain ⟨e1, e2⟩ := e 0
    rw [area_crs]
    rcases lp_vec.mpr d01 with h | ⟨_, h⟩
    · rcases Int.mul_eq_zero.mp e1 with k | k
      · omega
      · exact k
    · rcases Int.mul_eq_zero.mp e2 with k | k
      · omega
      · exact k
  have edge : ∀ e ∈ prs (o0 :: o1 :: R ++ [z]), (e.1 ∈ o0 :: o1 :: R ∧ e.2 ∈ o0 :: o1 :: R) ∨ (e.2 = z ∧ e.1 ∈ o0 :: o1 :: R ∧ ∀ x ∈ o0 :: o1 :: R, x = e.1 ∨ lx (p x) (p e.1)) := fun e he => by
    obtain ⟨M, y, hM⟩ : ∃ M y, o0 :: o1 :: R = M ++ [y] := by
      rcases List.eq_nil_or_concat (o0 :: o1 :: R) with h | ⟨M, y, h⟩
      · cases h
      · exact ⟨M, y, by rw [h, List.concat_eq_append]⟩
    rw [hM, List.append_assoc, List.singleton_append, prs_app] at he
    rcases List.mem_append.mp he with he | he
    · rw [← hM] at he
      exact .inl (prs_in he)
    · rcases List.mem_cons.mp (show e ∈ [(y, z)] from he) with rfl | he
      · refine .inr ⟨rfl, by rw [hM]; simp, fun x hx => ?_⟩
        rw [hM] at hx
        rcases List.mem_append.mp hx with hx | hx
        · have := hp.1
          rw [hM] at this
          exact .inr ((List.pairwise_append.mp this).2.2 x hx y (by simp))
        · exact .inl (List.mem_singleton.mp hx)
      · cases he
  have val : ∀ e ∈ prs (o0 :: o1 :: R ++ [z]), ∀ x ∈ o0 :: o1 :: R ++ [z], 0 ≤ Ar s (p e.1) (p e.2) (p x) := fun e he x hx => by
    have l12 := prs_lx up he
    rcases edge e he with ⟨m1, m2⟩ | ⟨rfl, m1, m3⟩
    · rcases List.mem_append.mp hx with hx | hx
      · unfold Ar
        rw [rowflat _ m1 _ m2 _ hx]
        omega
      · rw [List.mem_singleton.mp hx]
        exact Int.le_of_lt (row_pos hs up flat hz m1 m2 l12)
    · rcases List.mem_append.mp hx with hx | hx
      · rcases m3 x hx with rfl | h
        · unfold Ar; rw [area_aba]; omega
        · have := row_pos hs up flat hz hx m1 h
          have e1 : Ar s (p e.1) (p e.2) (p x) = Ar s (p x) (p e.1) (p e.2) := by unfold Ar; rw [area_rot]
          omega
      · rw [List.mem_singleton.mp hx]
        unfold Ar; rw [area_abb]; omega
  refine ⟨up, fun x hx => hx, val, fun e he x hx _ => ⟨hx, prs_between up he hx⟩, fun x hx c P e h => ?_, fun x hx c P e h => ?_⟩
  · cases e
    rcases List.mem_cons.mp (show x ∈ o0 :: (o1 :: R ++ [z]) from hx) with rfl | hx
    · exact lx_irrefl _ h
    · exact lx_asymm h ((List.pairwise_cons.mp (show (o0 :: (o1 :: R ++ [z])).Pairwise _ from up)).1 x hx)
  · have e2 := (List.append_inj' (show (o0 :: o1 :: R) ++ [z] = P ++ [c] from e) rfl).2
    cases e2
    rcases List.mem_append.mp hx with hx | hx
    · exact lx_asymm h (hp.2.2 x hx _ (by simp))
    · rw [List.mem_singleton.mp hx] at h
      exact lx_irrefl _ h
theorem chain_two (hs : sgnd s) (up : (o0 :: o1 :: R ++ [z]).Pairwise fun a b => lx (p a) (p b)) (flat : ∀ x ∈ R, area (p o0) (p o1) (p x) = 0) (hz : 0 < Ar s (p o0) (p o1) (p z)) : Chain (-s) p (fun x => x ∈ o0 :: o1 :: R ++ [z]) [o0, z] := by
  have hp := List.pairwise_append.mp up
  have z0 : lx (p o0) (p z) := hp.2.2 o0 (by simp) z (by simp)
  have pos : ∀ x ∈ o1 :: R, 0 < Ar (-s) (p o0) (p z) (p x) := fun x hx => by
    have := row_pos hs up flat hz (a := o0) (b := x) (by simp) (List.mem_cons_of_mem _ hx) ((List.pairwise_cons.mp hp.1).1 x hx)
    unfold Ar at *
    rw [area_sw, Int.neg_mul_neg]
    exact this
  have cases3 : ∀ x ∈ o0 :: o1 :: R ++ [z], x = o0 ∨ x = z ∨ x ∈ o1 :: R := fun x hx => by
    rcases List.mem_append.mp hx with hx | hx
    · rcases List.mem_cons.mp hx with rfl | hx
      · exact .inl rfl
      · exact .inr (.inr hx)
    · exact .inr (.inl (List.mem_singleton.mp hx))
  have one : ∀ e ∈ prs [o0, z], e = (o0, z) := fun e he => by
    rcases List.mem_cons.mp (show e ∈ [(o0, z)] from he) with rfl | he
    · rfl
    · cases he
  refine ⟨by simpa using z0, fun x hx => ?_, fun e he x hx => ?_, fun e he x hx h0 => ?_, fun x hx c P e h => ?_, fun x hx c P e h => ?_⟩
  · rcases List.mem_cons.mp hx with rfl | hx
    · simp
    · rw [List.mem_singleton.mp hx]; simp
  · rw [one e he]
    rcases cases3 x hx with rfl | rfl | hx
    · unfold Ar; rw [area_aba]; omega
    · unfold Ar; rw [area_abb]; omega
    · exact Int.le_of_lt (pos x hx)
  · rw [one e he] at h0 ⊢
    rcases cases3 x hx with rfl | rfl | hx
    · exact ⟨by simp, fun h => lx_irrefl _ h.1⟩
    · exact ⟨by simp, fun h => lx_irrefl _ h.2⟩
    · have := pos x hx
      dsimp at h0
      omega
  · cases e
    rcases cases3 x hx with rfl | rfl | hx
    · exact lx_irrefl _ h
    · exact lx_asymm h z0
    · exact lx_asymm h ((List.pairwise_cons.mp hp.1).1 x hx)
  · have e2 := (List.append_inj' (show [o0] ++ [z] = P ++ [c] from e) rfl).2
    cases e2
    rcases cases3 x hx with rfl | rfl | hx
    · exact lx_asymm h z0
    · exact lx_irrefl _ h
    · exact lx_asymm h (hp.2.2 x (List.mem_cons_of_mem _ hx) _ (by simp))
theorem nodup_up {C : List Int} (h : C.Pairwise fun a b => lx (p a) (p b)) : C.Nodup := h.imp fun {a b} hab e => by rw [e] at hab; exact lx_irrefl _ hab
theorem hull_left (up : (o0 :: o1 :: R ++ [z]).Pairwise fun a b => lx (p a) (p b)) (flat : ∀ x ∈ R, area (p o0) (p o1) (p x) = 0) (hz : 0 < area (p o0) (p o1) (p z)) : Hull p (fun x => x ∈ o0 :: o1 :: R ++ [z]) [] (o1 :: R) o0 z :=
  ⟨chain_row (.inl rfl) up flat (by unfold Ar; omega), chain_two (.inl rfl) up flat (by unfold Ar; omega), by simpa using nodup_up up, .inr (by simp)⟩
theorem hull_right (up : (o0 :: o1 :: R ++ [z]).Pairwise fun a b => lx (p a) (p b)) (flat : ∀ x ∈ R, area (p o0) (p o1) (p x) = 0) (hz : area (p o0) (p o1) (p z) < 0) : Hull p (fun x => x ∈ o0 :: o1 :: R ++ [z]) (o1 :: R).reverse [] o0 z := by
  refine ⟨chain_two (s := -1) (.inr rfl) up flat (by unfold Ar; omega), ?_, ?_, .inl (by simp)⟩
  · rw [List.reverse_reverse]
    exact chain_row (.inr rfl) up flat (by unfold Ar; omega)
  · have h := nodup_up up
    have hp := (List.nodup_append.mp h)
    rw [show (o1 :: R).reverse ++ [o0] ++ [z] = (o0 :: o1 :: R).reverse ++ [z] by simp]
    refine List.nodup_append.mpr ⟨(List.reverse_perm _).nodup_iff.mpr hp.1, hp.2.1, fun a ha b hb => hp.2.2 a (List.mem_reverse.mp ha) b hb⟩
end
/-! ### the pairs of a list, by place -/
theorem prs_len : ∀ G : List Int, (prs G).length = G.length - 1
  | [] => rfl
  | [_] => rfl
  | a :: b :: t => by
    rw [prs_cons, List.length_cons, prs_len (b :: t)]
    simp
theorem prs_get : ∀ (G : List Int) (i : Nat) {a b : Int}, (prs G)[i]? = some (a, b) ↔ G[i]? = some a ∧ G[i + 1]? = some b
  | [], i, a, b => by simp [prs]
  | [x], i, a, b => by
    simp only [prs]
    constructor
    · intro h; simp at h
    · rintro ⟨_, h⟩; simp at h
  | x :: y :: t, 0, a, b => by
    rw [prs_cons]
    simp
  | x :: y :: t, i + 1, a, b => by
    rw [prs_cons, List.getElem?_cons_succ, prs_get (y :: t) i]
    simp only [List.getElem?_cons_succ]
theorem prs_next (G : List Int) {i : Nat} (h : i + 1 < (prs G).length) : ∃ a b c, (prs G)[i]? = some (a, b) ∧ (prs G)[i + 1]? = some (b, c) := by
  rw [prs_len] at h
  refine ⟨G[i], G[i + 1], G[i + 2], (prs_get G i).mpr ⟨List.getElem?_eq_getElem _, List.getElem?_eq_getElem _⟩, (prs_get G (i + 1)).mpr ⟨List.getElem?_eq_getElem _, List.getElem?_eq_getElem _⟩⟩
theorem prs_ends {G : List Int} (h : 2 ≤ G.length) (nd : G.Nodup) : ∃ g0 g1, (∃ b, (prs G)[0]? = some (g0, b)) ∧ (∃ a, (prs G).getLast? = some (a, g1)) ∧ g0 ≠ g1 := by
  refine ⟨G[0], G[G.length - 1], ⟨G[1], (prs_get G 0).mpr ⟨List.getElem?_eq_getElem _, List.getElem?_eq_getElem _⟩⟩, ⟨G[G.length - 2], ?_⟩, fun e => ?_⟩
  · rw [List.getLast?_eq_getElem?, prs_len, show G.length - 1 - 1 = G.length - 2 by omega]
    refine (prs_get G _).mpr ⟨List.getElem?_eq_getElem _, ?_⟩
    rw [show G.length - 2 + 1 = G.length - 1 by omega]
    exact List.getElem?_eq_getElem _
  · have := (List.getElem_inj nd).mp e
    omega
theorem prs_fst : ∀ (G : List Int) {a b : Int}, (prs G).getLast? = some (a, b) → (prs G).map (fun x => x.1) ++ [b] = G
  | [], a, b, h => by simp [prs] at h
  | [_], a, b, h => by simp [prs] at h
  | [x, y], a, b, h => by
    simp [prs] at h
    obtain ⟨rfl, rfl⟩ := h
    rfl
  | x :: y :: z :: t, a, b, h => by
    have h2 : (prs (y :: z :: t)).getLast? = some (a, b) := by
      rw [prs_cons, prs_cons, List.getLast?_cons_cons] at h
      rw [prs_cons]
      exact h
    have := prs_fst (y :: z :: t) h2
    rw [prs_cons, List.map_cons, List.cons_append, this]
end T
/-! plain sums over the mirrors' operations, second part: cuts, places, loops -/
namespace T
local instance tb2 : Tb := ⟨[]⟩
theorem cut_from {α : Type} (l : List α) (k : Nat) : ocut (some l) (osome (some (k : Int))) (some none) = some (l.drop k) := by
  show some (cutL l (some (k : Int)) none) = _
  unfold cutL
  rw [HT.sIx_nat, HT.sIx_none]
  congr 1
  by_cases h : k ≤ l.length
  · rw [Nat.min_eq_left h, List.take_of_length_le (by rw [List.length_drop]; omega)]
  · rw [Nat.min_eq_right (by omega), List.drop_of_length_le (by omega : l.length ≤ k), List.drop_length]
    simp
theorem cut_to {α : Type} (l : List α) (k : Nat) : ocut (some l) (some none) (osome (some (k : Int))) = some (l.take k) := by
  show some (cutL l none (some (k : Int))) = _
  unfold cutL
  rw [HT.sIx_nat, HT.sIx_none, List.drop_zero, Nat.sub_zero]
  congr 1
  by_cases h : k ≤ l.length
  · rw [Nat.min_eq_left h]
  · rw [Nat.min_eq_right (by omega), List.take_of_length_le (by omega : l.length ≤ l.length), List.take_of_length_le (by omega)]
theorem idx_nat {α : Type} (l : List α) (k : Nat) : oidx (some l) (some (k : Int)) = l[k]? := by
  show L2.atI l (k : Int) = _
  rw [atI_pos (by omega), Int.toNat_natCast]
theorem idx_0 {α : Type} (a : α) (l : List α) : oidx (some (a :: l)) (some (0 : Int)) = some a := idx_nat (a :: l) 0
theorem idx_1 {α : Type} (a b : α) (l : List α) : oidx (some (a :: b :: l)) (some (1 : Int)) = some b := idx_nat (a :: b :: l) 1
theorem idx_i {α : Type} {l : List α} {k : Int} (h0 : 0 ≤ k) : oidx (some l) (some k) = l[k.toNat]? := atI_pos h0
theorem idx_last {α : Type} {l : List α} (h : l ≠ []) : oidx (some l) (some (-1 : Int)) = l.getLast? := by
  have : 0 < l.length := List.length_pos_iff.mpr h
  show L2.atI l (-1) = _
  rw [atI_neg (by decide) (by omega), List.getLast?_eq_getElem?]
  congr 1
  omega
theorem rngL_lenN (n : Nat) : (rngL (n : Int)).length = n := by unfold rngL; simp
theorem rngL_at (n i : Nat) (h : i < n) : (rngL (n : Int))[i]? = some (i : Int) := rngL_get (by omega)
theorem mem_rngL {n x : Int} : x ∈ rngL n ↔ 0 ≤ x ∧ x < n := by
  unfold rngL
  rw [List.mem_map]
  constructor
  · rintro ⟨i, h, rfl⟩
    have := List.mem_range.mp h
    omega
  · intro ⟨h1, h2⟩
    exact ⟨x.toNat, List.mem_range.mpr (by omega), by omega⟩
theorem rngL_nodup (n : Int) : (rngL n).Nodup := by
  unfold rngL
  refine List.Pairwise.map _ (fun a b h e => h (by omega)) List.nodup_range
/-- a walk with an invariant -/
theorem loop_inv {α β γ : Type} {f : α → γ → Option (Out β γ)} {Inv : Nat → γ → Prop} : ∀ (xs : List α) (i : Nat) (g : γ), (∀ j x g, xs[j]? = some x → Inv (i + j) g → ∃ g', (f x g = some (.go g') ∨ f x g = some (.cnt g')) ∧ Inv (i + j + 1) g') → Inv i g → ∃ g', loopL f xs g = some (.go g') ∧ Inv (i + xs.length) g'
  | [], i, g, _, h => ⟨g, rfl, h⟩
  | x :: xs, i, g, hs, h => by
    obtain ⟨g1, e1, h1⟩ := hs 0 x g rfl h
    obtain ⟨g2, e2, h2⟩ := loop_inv xs (i + 1) g1 (fun j y g hy hI => by
      have := hs (j + 1) y g hy (by rw [show i + (j + 1) = i + 1 + j by omega]; exact hI)
      rw [show i + (j + 1) + 1 = i + 1 + j + 1 by omega] at this
      exact this) h1
    refine ⟨g2, ?_, by rw [List.length_cons, show i + (xs.length + 1) = i + 1 + xs.length by omega]; exact h2⟩
    rcases e1 with e1 | e1
    · rw [loopL_go e1, e2]
    · rw [loopL_cnt e1, e2]
theorem loopW_t {β γ : Type} {c : γ → Option Bool} {f : γ → Option (Out β γ)} {g g' : γ} (h1 : c g = some true) (h2 : f g = some (.go g')) : loopW c f g = loopW c f g' := by
  rw [loopW_eq, h1, bind_s, if_pos rfl, h2]
  rfl
theorem loopW_f {β γ : Type} {c : γ → Option Bool} {f : γ → Option (Out β γ)} {g : γ} (h1 : c g = some false) : loopW c f g = some (.go g) := by
  rw [loopW_eq, h1]
  rfl
theorem loop_invE {α β γ γ' : Type} {f : α → γ → Option (Out β γ)} {K : γ → Option (Out β γ')} {xs : List α} {g : γ} {Inv : Nat → γ → Prop} {Post : Option (Out β γ') → Prop} (h0 : Inv 0 g)
    (hs : ∀ j x g, xs[j]? = some x → Inv j g → ∃ g', (f x g = some (.go g') ∨ f x g = some (.cnt g')) ∧ Inv (j + 1) g') (k : ∀ g', Inv xs.length g' → Post (K g')) : Post (thenO (loopL f xs g) K) := by
  obtain ⟨g', e, hI⟩ := loop_inv xs 0 g (fun j x g hx hI => by
    rw [Nat.zero_add] at *
    exact hs j x g hx hI) h0
  rw [e, thenO_go]
  exact k g' (by rw [Nat.zero_add] at hI; exact hI)
theorem loop_res {α β γ : Type} {f : α → γ → Option (Out β γ)} {xs : List α} {g r : γ} {Inv : Nat → γ → Prop} (h0 : Inv 0 g)
    (hs : ∀ j x g, xs[j]? = some x → Inv j g → ∃ g', (f x g = some (.go g') ∨ f x g = some (.cnt g')) ∧ Inv (j + 1) g') (k : ∀ g', Inv xs.length g' → g' = r) : loopL f xs g = some (.go r) := by
  obtain ⟨g', e, hI⟩ := loop_inv xs 0 g (fun j x g hx hI => by
    rw [Nat.zero_add] at *
    exact hs j x g hx hI) h0
  rw [e, k g' (by rw [Nat.zero_add] at hI; exact hI)]
theorem loop_all2 {α β γ' : Type} {f : α → Unit → Option (Out β Unit)} {K : Unit → Option (Out β γ')} {xs : List α} {r : Option β} (h : ∀ x ∈ xs, f x () = some (.go ()) ∨ f x () = some (.cnt ())) (k : retv (K ()) = r) : retv (thenO (loopL f xs ()) K) = r := by
  obtain ⟨g', e, _⟩ := loop_inv (Inv := fun _ _ => True) xs 0 () (fun j x g hx _ => ⟨(), h x (List.mem_of_getElem? hx), trivial⟩) trivial
  rw [e, thenO_go]
  exact k
theorem loop_all2O {α β γ' : Type} {f : α → Unit → Option (Out β Unit)} {K : Unit → Option (Out β γ')} {xs : List α} {r : Option (Out β γ')} (h : ∀ x ∈ xs, f x () = some (.go ()) ∨ f x () = some (.cnt ())) (k : K () = r) : thenO (loopL f xs ()) K = r := by
  obtain ⟨g', e, _⟩ := loop_inv (Inv := fun _ _ => True) xs 0 () (fun j x g hx _ => ⟨(), h x (List.mem_of_getElem? hx), trivial⟩) trivial
  rw [e, thenO_go]
  exact k
/-- the points' places -/
def ptAt (pts : List Pt) (i : Int) : Pt := pts.getD i.toNat (0, 0)
theorem ptAt_idx {pts : List Pt} {i : Int} (h0 : 0 ≤ i) (h1 : i < pts.length) : oidx (some pts) (some i) = some (ptAt pts i) := by
  rw [idx_i h0, List.getElem?_eq_getElem (by omega)]
  unfold ptAt
  rw [List.getD_eq_getElem?_getD, List.getElem?_eq_getElem (by omega)]
  rfl
theorem ptAt_mem {pts : List Pt} {i : Int} (h0 : 0 ≤ i) (h1 : i < pts.length) : ptAt pts i ∈ pts := by
  unfold ptAt
  rw [List.getD_eq_getElem?_getD, List.getElem?_eq_getElem (by omega)]
  exact List.getElem_mem _
theorem ptAt_inj {pts : List Pt} (nd : pts.Nodup) {i j : Int} (h0 : 0 ≤ i) (h1 : i < pts.length) (k0 : 0 ≤ j) (k1 : j < pts.length) (e : ptAt pts i = ptAt pts j) : i = j := by
  unfold ptAt at e
  rw [List.getD_eq_getElem?_getD, List.getD_eq_getElem?_getD, List.getElem?_eq_getElem (by omega), List.getElem?_eq_getElem (by omega)] at e
  have := (List.getElem_inj nd).mp (show pts[i.toNat] = pts[j.toNat] from e)
  omega
theorem ptAt_of {pts : List Pt} {x : Pt} (h : x ∈ pts) : ∃ i : Int, 0 ≤ i ∧ i < pts.length ∧ ptAt pts i = x := by
  obtain ⟨n, hn, e⟩ := List.mem_iff_getElem.mp h
  refine ⟨n, by omega, by omega, ?_⟩
  unfold ptAt
  rw [List.getD_eq_getElem?_getD, Int.toNat_natCast, List.getElem?_eq_getElem hn]
  exact e
/-- the numbers by their points -/
def ordr (pts : List Pt) : List Int := (rngL (pts.length : Int)).mergeSort (ptLe fun i => pts.getD i.toNat (0, 0))
theorem ordr_mem {pts : List Pt} {x : Int} : x ∈ ordr pts ↔ 0 ≤ x ∧ x < pts.length := by
  unfold ordr
  rw [(List.mergeSort_perm _ _).mem_iff, mem_rngL]
theorem ordr_len (pts : List Pt) : (ordr pts).length = pts.length := by unfold ordr; rw [List.length_mergeSort, rngL_lenN]
theorem ordr_nodup (pts : List Pt) : (ordr pts).Nodup := (List.mergeSort_perm _ _).nodup_iff.mpr (rngL_nodup _)
theorem ptLe_iff {k : Int → Pt} {a b : Int} : ptLe k a b = true ↔ ¬ lx (k b) (k a) := by
  unfold ptLe lx
  rw [decide_eq_true_eq]
  omega
theorem ordr_up {pts : List Pt} (nd : pts.Nodup) : (ordr pts).Pairwise fun a b => lx (ptAt pts a) (ptAt pts b) := by
  have h : (ordr pts).Pairwise fun a b => ptLe (fun i => pts.getD i.toNat (0, 0)) a b = true := List.pairwise_mergeSort (fun a b c h1 h2 => by
    rw [ptLe_iff] at *
    intro h
    by_cases hab : lx (pts.getD b.toNat (0, 0)) (pts.getD c.toNat (0, 0))
    · exact h1 (lx_trans hab h)
    · rw [lx_total hab h2] at h1
      exact h1 h) (fun a b => by
    by_cases h : ptLe (fun i => pts.getD i.toNat (0, 0)) a b = true
    · rw [h]; rfl
    · have h2 : ¬¬ lx (pts.getD b.toNat (0, 0)) (pts.getD a.toNat (0, 0)) := fun z => h (ptLe_iff.mpr z)
      have h3 := Decidable.of_not_not h2
      rw [show ptLe (fun i => pts.getD i.toNat (0, 0)) b a = true from ptLe_iff.mpr fun z => lx_asymm h3 z, Bool.or_true]) _
  have h2 := (h.and (ordr_nodup pts))
  refine List.Pairwise.imp_of_mem (fun {a b} ha hb ⟨k1, k2⟩ => ?_) h2
  have a1 := ordr_mem.mp ha
  have b1 := ordr_mem.mp hb
  have k1 : ¬ lx (ptAt pts b) (ptAt pts a) := ptLe_iff.mp k1
  by_cases z : lx (ptAt pts a) (ptAt pts b)
  · exact z
  · exact absurd (ptAt_inj nd a1.1 a1.2 b1.1 b1.2 (lx_total z k1)) k2
theorem ord_all {pts : List Pt} (h : pts.length ≤ 1000000) : osortL pts (orng (olen (some pts))) = some (ordr pts) := by
  rw [olen_s, orng_s (by omega) (by omega)]
  show (if (rngL (pts.length : Int)).all _ = true then _ else _) = _
  rw [if_pos]
  · rfl
  · refine List.all_eq_true.mpr fun x hx => ?_
    have := mem_rngL.mp hx
    rw [decide_eq_true this.1, decide_eq_true (by omega : x.toNat < pts.length)]
    rfl
def triOf (q : Int) (e : Int × Int) : Tri := ⟨e.2, e.1, q⟩
theorem sgn_lt0 {x : Int} : sgn x < 0 ↔ x < 0 := by
  rw [sgn_eq]
  exact Int.sign_neg_iff
theorem cyc_len (A : List Int) : (cyc A).length = A.length := by
  unfold cyc
  rw [prs_len, List.length_append]
  simp
theorem cyc_get (A : List Int) {j : Nat} (h : j < A.length) : ∃ a b, A[j]? = some a ∧ A[(j + 1) % A.length]? = some b ∧ (cyc A)[j]? = some (a, b) := by
  have hm : (j + 1) % A.length < A.length := Nat.mod_lt _ (by omega)
  refine ⟨A[j], A[(j + 1) % A.length], List.getElem?_eq_getElem _, List.getElem?_eq_getElem _, ?_⟩
  unfold cyc
  refine (prs_get _ _).mpr ⟨by rw [List.getElem?_append_left h, List.getElem?_eq_getElem h], ?_⟩
  by_cases k : j + 1 < A.length
  · rw [List.getElem?_append_left k, List.getElem?_eq_getElem k]
    congr 1
    congr 1
    exact (Nat.mod_eq_of_lt k).symm
  · have e : j + 1 = A.length := by omega
    have z : (j + 1) % A.length = 0 := by rw [e, Nat.mod_self]
    rw [← List.getElem?_eq_getElem hm, List.getElem?_append_right (by omega), z, e, Nat.sub_self]
    cases A with
    | nil => exact absurd h (Nat.not_lt_zero _)
    | cons x t => rfl
theorem loop_split {α β γ : Type} {f : α → γ → Option (Out β γ)} {Inv : List α → γ → Prop} (all : List α) (step : ∀ D q R g, all = D ++ q :: R → Inv D g → ∃ g', f q g = some (.go g') ∧ Inv (D ++ [q]) g') : ∀ (R D : List α) (g : γ), all = D ++ R → Inv D g → ∃ g', loopL f R g = some (.go g') ∧ Inv all g'
  | [], D, g, e, h => ⟨g, rfl, by rw [e, List.append_nil]; exact h⟩
  | q :: R, D, g, e, h => by
    obtain ⟨g1, e1, h1⟩ := step D q R g e h
    obtain ⟨g2, e2, h2⟩ := loop_split all step R (D ++ [q]) g1 (by rw [e]; simp) h1
    exact ⟨g2, by rw [loopL_go e1, e2], h2⟩
theorem loop_splitE {α β γ γ' : Type} {f : α → γ → Option (Out β γ)} {K : γ → Option (Out β γ')} {Inv : List α → γ → Prop} {Post : Option (Out β γ') → Prop} (all R D : List α) (g : γ) (e : all = D ++ R) (h0 : Inv D g)
    (step : ∀ D q R g, all = D ++ q :: R → Inv D g → ∃ g', f q g = some (.go g') ∧ Inv (D ++ [q]) g') (k : ∀ g', Inv all g' → Post (K g')) : Post (thenO (loopL f R g) K) := by
  obtain ⟨g', eg, hI⟩ := loop_split all step R D g e h0
  rw [eg, thenO_go]
  exact k g' hI
theorem lcM_rng {β : Type} (E : List β) (g : Int → Option β) (h : ∀ i : Nat, i < E.length → g (i : Int) = E[i]?) : lcM oYes g (rngL (E.length : Int)) = some E := by
  have key : ∀ (R D : List Int), rngL (E.length : Int) = D ++ R → lcM oYes g R = some (E.drop D.length) := by
    intro R
    induction R with
    | nil =>
      intro D e
      have : D.length = E.length := by have := congrArg List.length e; rw [rngL_lenN, List.append_nil] at this; omega
      rw [this, List.drop_length]
      rfl
    | cons x R ih =>
      intro D e
      have hl := congrArg List.length e
      rw [rngL_lenN, List.length_append, List.length_cons] at hl
      have hD : D.length < E.length := by omega
      have hx : x = (D.length : Int) := by
        have := rngL_at E.length D.length hD
        rw [e, List.getElem?_append_right (Nat.le_refl _), Nat.sub_self] at this
        simpa using this
      have := ih (D ++ [x]) (by rw [e]; simp)
      show (Option.bind (some true) fun b => if b then (g x).bind fun y => (lcM oYes g R).bind fun ys => some (y :: ys) else lcM oYes g R) = _
      rw [bind_s, if_pos rfl, hx, h _ hD, List.getElem?_eq_getElem hD, bind_s, this, bind_s, List.length_append, List.length_singleton, ← List.getElem_cons_drop hD]
  have := key (rngL (E.length : Int)) [] rfl
  rw [this]
  rfl
/-- around A stand the points D -/
def HullAt (p : Int → Pt) (D A : List Int) : Prop := ∃ U Lo l r, A = U ++ l :: Lo ++ [r] ∧ Hull p (fun x => x ∈ D) U Lo l r ∧ D.getLast? = some r
/-- A' comes of A by q -/
def Grown (p : Int → Pt) (q : Int) (A A' : List Int) : Prop := ∃ X Y G, (cyc A).filter (keep p q) = X ++ Y ∧ Y ++ X = prs G ∧ Y ≠ [] ∧ G.Nodup ∧ A' = G ++ [q]
theorem grow {p : Int → Pt} {D A R : List Int} {q : Int} (up : (D ++ q :: R).Pairwise fun a b => lx (p a) (p b)) (inj : ∀ x y, x ∈ D → y ∈ D → p x = p y → x = y) (H : HullAt p D A) : ∃ A', Grown p q A A' ∧ HullAt p (D ++ [q]) A' := by
  obtain ⟨U, Lo, l, r, rfl, H, hr⟩ := H
  have hq : ∀ x, x ∈ D → lx (p x) (p q) := fun x hx => (List.pairwise_append.mp up).2.2 x hx q (List.mem_cons_self ..)
  obtain ⟨U', Lo', X, Y, H', e1, e2, e3⟩ := H.step inj hq
  refine ⟨U' ++ l :: Lo' ++ [q], ⟨X, Y, U' ++ l :: Lo', e1, e2, e3, (List.nodup_append.mp H'.nd).1, rfl⟩, U', Lo', l, q, rfl, ?_, by simp⟩
  have : (fun x => x ∈ D ∨ x = q) = fun x => x ∈ D ++ [q] := by
    funext x
    simp
  rw [← this]
  exact H'
end T
/-! plain sums, third part: least, sorted, distinct; what a hull says -/
namespace T
local instance tb3 : Tb := ⟨[]⟩
theorem loop_dec {α β : Type} {f : α → Unit → Option (Out β Unit)} {P : α → Bool} {b : β} : ∀ (xs : List α), (∀ x ∈ xs, f x () = if P x then some (.ret b) else some (.go ())) → loopL f xs () = if xs.any P then some (.ret b) else some (.go ())
  | [], _ => rfl
  | x :: xs, h => by
    have hx := h x (List.mem_cons_self ..)
    rw [List.any_cons]
    cases hP : P x with
    | true =>
      rw [hP, if_pos rfl] at hx
      rw [loopL_ret hx, Bool.true_or, if_pos rfl]
    | false =>
      rw [hP, if_neg Bool.false_ne_true] at hx
      rw [loopL_go hx, loop_dec xs fun y hy => h y (List.mem_cons_of_mem _ hy), Bool.false_or]
/-- three on a line through two -/
theorem col3 {a b x y z : Pt} (ab : a ≠ b) (hx : area a b x = 0) (hy : area a b y = 0) (hz : area a b z = 0) : area x y z = 0 := by
  have e1 : (b.1 - a.1) * area x y z = 0 := by
    revert hx hy hz
    unfold area
    intro hx hy hz
    grind
  have e2 : (b.2 - a.2) * area x y z = 0 := by
    revert hx hy hz
    unfold area
    intro hx hy hz
    grind
  rcases Int.mul_eq_zero.mp e1 with k | k
  · rcases Int.mul_eq_zero.mp e2 with k2 | k2
    · exact absurd (Prod.ext (by omega) (by omega)) ab
    · exact k2
  · exact k
theorem perm_lx : ∀ {l m : List Pt}, l.Perm m → l.Pairwise lx → m.Pairwise lx → l = m
  | [], m, h, _, _ => (List.nil_perm.mp h).symm
  | a :: l, [], h, _, _ => absurd h.length_eq (by simp)
  | a :: l, b :: m, h, h1, h2 => by
    have ea : a = b := by
      have m1 : a ∈ b :: m := h.mem_iff.mp (List.mem_cons_self ..)
      have m2 : b ∈ a :: l := h.mem_iff.mpr (List.mem_cons_self ..)
      rcases List.mem_cons.mp m1 with e | m1
      · exact e
      · rcases List.mem_cons.mp m2 with e | m2
        · exact e.symm
        · exact (lx_asymm ((List.pairwise_cons.mp h1).1 b m2) ((List.pairwise_cons.mp h2).1 a m1)).elim
    subst ea
    rw [perm_lx ((List.perm_cons a).mp h) (List.pairwise_cons.mp h1).2 (List.pairwise_cons.mp h2).2]
theorem ordr_map (pts : List Pt) : ((ordr pts).map (ptAt pts)).Perm pts := by
  have h1 : ((ordr pts).map (ptAt pts)).Perm ((rngL (pts.length : Int)).map (ptAt pts)) := (List.mergeSort_perm _ _).map _
  have h2 : (rngL (pts.length : Int)).map (ptAt pts) = pts := by
    refine List.ext_getElem (by rw [List.length_map, rngL_lenN]) fun i h1 h2 => ?_
    rw [List.getElem_map]
    have := rngL_at pts.length i h2
    rw [List.getElem?_eq_getElem (by rw [rngL_lenN]; exact h2)] at this
    rw [Option.some.inj this]
    unfold ptAt
    rw [List.getD_eq_getElem?_getD, Int.toNat_natCast, List.getElem?_eq_getElem h2]
    rfl
  rwa [h2] at h1
theorem lt_lx (a b : Pt) : Ordd.lt a b = decide (lx a b) := rfl
theorem osort_pts {pts : List Pt} (nd : pts.Nodup) : osort (some pts) = some ((ordr pts).map (ptAt pts)) := by
  show some _ = _
  congr 1
  refine perm_lx ((List.mergeSort_perm _ _).trans (ordr_map pts).symm) ?_ ?_
  · have h : (pts.mergeSort fun x y => !Ordd.lt y x).Pairwise fun x y => (!Ordd.lt y x) = true := List.pairwise_mergeSort (fun a b c h1 h2 => by
      simp only [lt_lx, Bool.not_eq_true', decide_eq_false_iff_not] at *
      intro h
      by_cases hab : lx b c
      · exact h1 (lx_trans hab h)
      · rw [lx_total hab h2] at h1
        exact h1 h) (fun a b => by
      simp only [lt_lx]
      by_cases h : lx b a
      · rw [show decide (lx a b) = false from decide_eq_false fun z => lx_asymm z h, Bool.not_false, Bool.or_true]
      · rw [decide_eq_false h]
        rfl) _
    have nd2 : (pts.mergeSort fun x y => !Ordd.lt y x).Nodup := (List.mergeSort_perm _ _).nodup_iff.mpr nd
    refine (h.and nd2).imp fun {a b} ⟨k1, k2⟩ => ?_
    simp only [lt_lx, Bool.not_eq_true', decide_eq_false_iff_not] at k1
    by_cases z : lx a b
    · exact z
    · exact absurd (lx_total z k1) k2
  · exact List.pairwise_map.mpr (ordr_up nd)
theorem oindx_at {α : Type} [DecidableEq α] {l : List α} (nd : l.Nodup) {j : Nat} {x : α} (h : l[j]? = some x) : oindx (some l) (some x) = some (j : Int) := by
  obtain ⟨hj, e⟩ := List.getElem?_eq_some_iff.mp h
  have hm : x ∈ l := by rw [← e]; exact List.getElem_mem _
  unfold oindx
  rw [bind2_s, if_pos hm]
  have hl := List.idxOf_lt_length_iff.mpr hm
  have e2 : l[l.idxOf x] = l[j] := by rw [List.getElem_idxOf hl, e]
  rw [(List.getElem_inj nd).mp e2]
theorem oindx_pt {pts : List Pt} (nd : pts.Nodup) {i : Int} (h0 : 0 ≤ i) (h1 : i < pts.length) : oindx (some pts) (some (ptAt pts i)) = some i := by
  have := oindx_at (j := i.toNat) (x := ptAt pts i) nd (by
    unfold ptAt
    rw [List.getD_eq_getElem?_getD, List.getElem?_eq_getElem (by omega)]
    rfl)
  rw [this, Int.toNat_of_nonneg h0]
theorem lcM_back {pts : List Pt} (nd : pts.Nodup) (f : Pt → Option Int) (hf : ∀ x, f x = oindx (some pts) (some x)) : ∀ (l : List Int), (∀ x ∈ l, 0 ≤ x ∧ x < pts.length) → lcM oYes f (l.map (ptAt pts)) = some l
  | [], _ => rfl
  | i :: l, h => by
    have hi := h i (by simp)
    show (Option.bind (some true) fun b => if b then (f (ptAt pts i)).bind fun y => (lcM oYes f (l.map (ptAt pts))).bind fun ys => some (y :: ys) else lcM oYes f (l.map (ptAt pts))) = _
    rw [bind_s, if_pos rfl, hf, oindx_pt nd hi.1 hi.2, lcM_back nd f hf l fun x hx => h x (List.mem_cons_of_mem _ hx)]
    rfl
theorem foldl_mem {β : Type} (g : β → β → β) (hg : ∀ a b, g a b = a ∨ g a b = b) : ∀ (bs : List β) (b : β), bs.foldl g b ∈ b :: bs
  | [], b => List.mem_cons_self ..
  | y :: bs, b => by
    have := foldl_mem g hg bs (g b y)
    rw [List.foldl_cons]
    rcases List.mem_cons.mp this with h | h
    · rw [h]
      rcases hg b y with e | e <;> rw [e] <;> simp
    · simp [h]
theorem minF_mem {β : Type} [Ordd β] (b : β) (bs : List β) : minF b bs ∈ b :: bs := foldl_mem _ (fun a y => by by_cases h : Ordd.lt y a = true <;> simp [h]) bs b
theorem maxF_mem {β : Type} [Ordd β] (b : β) (bs : List β) : maxF b bs ∈ b :: bs := foldl_mem _ (fun a y => by by_cases h : Ordd.lt a y = true <;> simp [h]) bs b
theorem minF_pt : ∀ (bs : List Pt) (b m : Pt), m ∈ b :: bs → (∀ x ∈ b :: bs, ¬ lx x m) → minF b bs = m
  | [], b, m, hm, _ => (List.mem_singleton.mp hm).symm
  | y :: bs, b, m, hm, h => by
    have e : minF b (y :: bs) = minF (if Ordd.lt y b then y else b) bs := rfl
    rw [e]
    have hb := h b (by simp)
    have hy := h y (by simp)
    by_cases hl : lx y b
    · rw [if_pos (show Ordd.lt y b = true from decide_eq_true hl)]
      refine minF_pt bs y m ?_ fun x hx => h x (by rcases List.mem_cons.mp hx with k | k <;> simp [k])
      rcases List.mem_cons.mp hm with rfl | hm
      · exact absurd hl hy
      · exact hm
    · rw [if_neg (show ¬ Ordd.lt y b = true by rw [lt_lx, decide_eq_true_eq]; exact hl)]
      refine minF_pt bs b m ?_ fun x hx => h x (by rcases List.mem_cons.mp hx with k | k <;> simp [k])
      rcases List.mem_cons.mp hm with rfl | hm
      · exact List.mem_cons_self ..
      · rcases List.mem_cons.mp hm with rfl | hm
        · rw [lx_total hb hl]
          exact List.mem_cons_self ..
        · exact List.mem_cons_of_mem _ hm
theorem dd_go {α : Type} [DecidableEq α] : ∀ (l s : List α), (s ++ l).Nodup → l.foldl (fun s v => if v ∈ s then s else s ++ [v]) s = s ++ l
  | [], s, _ => by simp
  | v :: l, s, h => by
    have hv : v ∉ s := fun z => (List.nodup_append.mp h).2.2 v z v (by simp) rfl
    rw [List.foldl_cons, if_neg hv, dd_go l (s ++ [v]) (by simpa using h)]
    simp
theorem dd_nodup {α : Type} [DecidableEq α] {l : List α} (h : l.Nodup) : dd l = l := by
  unfold dd
  rw [dd_go l [] (by simpa using h), List.nil_append]
/-! ### the hull, as told -/
/-- what a side of the hull keeps -/
def Side (p : Int → Pt) (D F : List Int) (a b : Int) : Prop := a ≠ b ∧ ∀ x ∈ D, 0 ≤ area (p a) (p b) (p x) ∧ (area (p a) (p b) (p x) = 0 → x ∈ F ∧ 0 ≤ ((p a).1 - (p x).1) * ((p b).1 - (p x).1) + ((p a).2 - (p x).2) * ((p b).2 - (p x).2))
theorem dot_of {a b x : Pt} (ab : lx a b) (h0 : area a b x = 0) (nb : ¬ (lx a x ∧ lx x b)) : 0 ≤ (a.1 - x.1) * (b.1 - x.1) + (a.2 - x.2) * (b.2 - x.2) := by
  by_cases h1 : lx a x
  · have h2 : ¬ lx x b := fun z => nb ⟨h1, z⟩
    have hv : lp (vec b x) ∨ vec b x = (0, 0) := by
      by_cases z : lx b x
      · exact .inl (lp_vec.mpr z)
      · have := lx_total z h2
        subst this
        exact .inr (by unfold vec; simp)
    have := dot_nn (.inl (lp_vec.mpr h1)) hv (by unfold crs vec; unfold area at h0; grind)
    unfold vec at this
    dsimp at this
    have e : (a.1 - x.1) * (b.1 - x.1) + (a.2 - x.2) * (b.2 - x.2) = (x.1 - a.1) * (x.1 - b.1) + (x.2 - a.2) * (x.2 - b.2) := by grind
    omega
  · have ha : lp (vec x a) ∨ vec x a = (0, 0) := by
      by_cases z : lx x a
      · exact .inl (lp_vec.mpr z)
      · have := lx_total h1 z
        subst this
        exact .inr (by unfold vec; simp)
    have hb : lx x b := by
      by_cases z : lx x a
      · exact lx_trans z ab
      · have := lx_total h1 z
        subst this
        exact ab
    have := dot_nn ha (.inl (lp_vec.mpr hb)) (by unfold crs vec; unfold area at h0; grind)
    exact this
theorem side_low {p : Int → Pt} {D C F : List Int} (H : Chain 1 p (fun x => x ∈ D) C) (hF : ∀ x ∈ C, x ∈ F) {a b : Int} (he : (a, b) ∈ prs C) : Side p D F a b := by
  have ab := prs_lx H.up he
  refine ⟨fun e => lx_irrefl (p b) (by dsimp at ab; rw [e] at ab; exact ab), fun x hx => ⟨by have := H.sup _ he x hx; unfold Ar at this; dsimp at this; omega, fun z => ?_⟩⟩
  obtain ⟨f1, f2⟩ := H.flat _ he x hx (by unfold Ar; dsimp; omega)
  exact ⟨hF x f1, dot_of ab z f2⟩
theorem side_upp {p : Int → Pt} {D C F : List Int} (H : Chain (-1) p (fun x => x ∈ D) C) (hF : ∀ x ∈ C, x ∈ F) {a b : Int} (he : (b, a) ∈ prs C) : Side p D F a b := by
  have ab := prs_lx H.up he
  refine ⟨fun e => lx_irrefl (p b) (by dsimp at ab; rw [e] at ab; exact ab), fun x hx => ⟨by have := H.sup _ he x hx; unfold Ar at this; dsimp at this; rw [area_flip]; omega, fun z => ?_⟩⟩
  rw [area_flip] at z
  obtain ⟨f1, f2⟩ := H.flat _ he x hx (by unfold Ar; dsimp; omega)
  have := dot_of ab (by dsimp; omega) f2
  dsimp at this
  refine ⟨hF x f1, ?_⟩
  have e : ((p a).1 - (p x).1) * ((p b).1 - (p x).1) + ((p a).2 - (p x).2) * ((p b).2 - (p x).2) = ((p b).1 - (p x).1) * ((p a).1 - (p x).1) + ((p b).2 - (p x).2) * ((p a).2 - (p x).2) := by grind
  omega
/-- round the hull from its first -/
theorem hull_sides {p : Int → Pt} {D U Lo : List Int} {l r : Int} (H : Hull p (fun x => x ∈ D) U Lo l r) : ∀ e ∈ cyc (l :: Lo ++ r :: U), Side p D (l :: Lo ++ r :: U) e.1 e.2 := by
  intro e he
  have e1 : cyc (l :: Lo ++ r :: U) = prs (l :: Lo ++ [r]) ++ prs (r :: U ++ [l]) := by
    show prs (l :: Lo ++ r :: U ++ [l]) = _
    rw [show l :: Lo ++ r :: U ++ [l] = (l :: Lo) ++ r :: (U ++ [l]) by simp, prs_app]
    rfl
  rw [e1] at he
  rcases List.mem_append.mp he with h | h
  · exact side_low H.low (fun x hx => by
      rcases List.mem_append.mp hx with k | k
      · exact List.mem_append.mpr (.inl k)
      · rw [List.mem_singleton.mp k]; simp) h
  · have e2 : r :: U ++ [l] = (l :: U.reverse ++ [r]).reverse := by simp
    rw [e2, prs_rev] at h
    obtain ⟨e', he', rfl⟩ := List.mem_map.mp (List.mem_reverse.mp h)
    exact side_upp H.upp (fun x hx => by
      simp only [List.cons_append, List.mem_cons, List.mem_append, List.mem_reverse, List.not_mem_nil, or_false] at hx ⊢
      rcases hx with k | k | k
      · exact .inl k
      · exact .inr (.inr (.inr k))
      · exact .inr (.inr (.inl k))) he'
theorem cyc_prev (F : List Int) {j : Nat} (h : j < F.length) : ∃ a b, oidx (some F) (osub (some (j : Int)) (some (1 : Int))) = some a ∧ oidx (some F) (some (j : Int)) = some b ∧ (a, b) ∈ cyc F := by
  have hne : F ≠ [] := fun z => by rw [z] at h; exact absurd h (Nat.not_lt_zero _)
  cases j with
  | zero =>
    obtain ⟨a, b, h1, h2, h3⟩ := cyc_get F (j := F.length - 1) (by omega)
    rw [show F.length - 1 + 1 = F.length by omega, Nat.mod_self] at h2
    refine ⟨a, b, ?_, by rw [idx_nat, h2], List.mem_of_getElem? h3⟩
    rw [osub_s]
    show oidx _ (some (-1 : Int)) = _
    rw [idx_last hne, List.getLast?_eq_getElem?, h1]
  | succ j =>
    obtain ⟨a, b, h1, h2, h3⟩ := cyc_get F (j := j) (by omega)
    rw [Nat.mod_eq_of_lt h] at h2
    refine ⟨a, b, ?_, by rw [idx_nat, h2], List.mem_of_getElem? h3⟩
    rw [osub_s, show (((j + 1 : Nat) : Int) - 1) = (j : Int) by omega, idx_nat, h1]
theorem ominL_pt {pts : List Pt} {m : Pt} (hm : m ∈ pts) (h : ∀ x ∈ pts, ¬ lx x m) : ominL (some pts) = some m := by
  cases pts with
  | nil => cases hm
  | cons a R =>
    show some (minF a R) = _
    rw [minF_pt R a m hm h]
theorem ominL_in {F : List Int} (h : F ≠ []) : ∃ m, ominL (some F) = some m ∧ m ∈ F := by
  cases F with
  | nil => exact absurd rfl h
  | cons b bs => exact ⟨_, rfl, minF_mem b bs⟩
theorem omaxL_in {F : List Int} (h : F ≠ []) : ∃ m, omaxL (some F) = some m ∧ m ∈ F := by
  cases F with
  | nil => exact absurd rfl h
  | cons b bs => exact ⟨_, rfl, maxF_mem b bs⟩
theorem osetl_nd {F : List Int} (h : F.Nodup) (hl : F.length ≤ 4000) : osetl (some F) = some (F.length : Int) := by
  show (if decide (F.length ≤ 4000) = true then some ((dd F).length : Int) else none) = _
  rw [if_pos (decide_eq_true hl), dd_nodup h]
theorem idx_mem {α : Type} {F : List α} {i : Int} {a : α} (h0 : 0 ≤ i) (h : oidx (some F) (some i) = some a) : a ∈ F := by
  rw [idx_i h0] at h
  exact List.mem_of_getElem? h
end T
namespace G_k04
open PySem PySem.Spec PyProof.Rows L2 T
def top (i : Nat) : Stmt := PySem.Challenge.pw_nearfields_k04_hulls.main.body.getD i (.Pass ⟨0, 0, 0, 0⟩)
abbrev s_twice_area : Stmt := top 1
abbrev s_sign : Stmt := top 2
abbrev s_turn : Stmt := top 3
abbrev s_in_order : Stmt := top 5
abbrev s_first_off : Stmt := top 6
abbrev s_swept : Stmt := top 7
abbrev s_joined : Stmt := top 8
abbrev s_hull : Stmt := top 9
abbrev s__law_cell_at : Stmt := top 11
abbrev s__law_mixed : Stmt := top 12
abbrev s__law_point : Stmt := top 13
abbrev s__law_grown : Stmt := top 14
abbrev s__law_points : Stmt := top 15
abbrev s__law_area : Stmt := top 16
abbrev s__law_whole : Stmt := top 17
abbrev s__law_numbers : Stmt := top 18
abbrev s__law_edge : Stmt := top 19
abbrev s__law_in_row : Stmt := top 20
abbrev s__law_inside : Stmt := top 21
abbrev s_law : Stmt := top 22
structure Fr (mg : Str → Option Value) : Prop where
  b_int : mg "int" = none
  b_sorted : mg "sorted" = none
  b_list : mg "list" = none
  b_range : mg "range" = none
  b_len : mg "len" = none
  b_reversed : mg "reversed" = none
  b_isinstance : mg "isinstance" = none
  b_bool : mg "bool" = none
  b_all : mg "all" = none
  b_set : mg "set" = none
  b_min : mg "min" = none
  b_max : mg "max" = none
structure Xf (K : PySem.W.Frag) (mg : Str → Option Value) : Prop where
variable [Tb] {P : Program} {w : World} {K : PySem.W.Frag} {mg : Str → Option Value} {base : Heap} {fa : Addr} {fd : FuncData}
noncomputable def mb_twice_area (v_a : (Int × Int)) (v_b : (Int × Int)) (v_c : (Int × Int)) : Option (Out Int Unit) := (oret (osub (omul (osub (ofst (some v_b)) (ofst (some v_a))) (osub (osnd (some v_c)) (osnd (some v_a)))) (omul (osub (osnd (some v_b)) (osnd (some v_a))) (osub (ofst (some v_c)) (ofst (some v_a))))))
noncomputable def m_twice_area (v_a : (Int × Int)) (v_b : (Int × Int)) (v_c : (Int × Int)) : Option Int := retv (mb_twice_area v_a v_b v_c)
theorem sc_twice_area : FnScope ["a", "b", "c"] ["a", "b", "c"] (defScope s_twice_area) := ⟨rfl, rfl, rfl, by decide +kernel, rfl, by decide +kernel, by decide +kernel⟩
theorem ok_twice_area (B : Fr mg)  (F : FunD K "twice_area" "twice_area" (defArgs s_twice_area) (defBody s_twice_area) (defScope s_twice_area) [] [] fa fd) : FnOk P w K mg base CX0 1 fa fd ["a", "b", "c"] (spOf K false (C3 m_twice_area)) :=
  fn_ok3 (m := mb_twice_area) (post := fun _ => []) F sc_twice_area (by decide) rfl fun cdv A outer s H E hr v_a v_b v_c => (bs_ret (ep_sub (ep_mul (ep_sub (ep_fst (ep_var 1)) (ep_fst (ep_var 0))) (ep_sub (ep_snd (ep_var 2)) (ep_snd (ep_var 0)))) (ep_mul (ep_sub (ep_snd (ep_var 1)) (ep_snd (ep_var 0))) (ep_sub (ep_fst (ep_var 2)) (ep_fst (ep_var 0))))))
noncomputable def mb_sign (v_number : Int) : Option (Out Int Unit) := (oret (osub (ob2i (ogt (some v_number) (some (0 : Int)))) (ob2i (olt (some v_number) (some (0 : Int))))))
noncomputable def m_sign (v_number : Int) : Option Int := retv (mb_sign v_number)
theorem sc_sign : FnScope ["number"] ["number"] (defScope s_sign) := ⟨rfl, rfl, rfl, by decide +kernel, rfl, by decide +kernel, by decide +kernel⟩
theorem ok_sign (B : Fr mg)  (F : FunD K "sign" "sign" (defArgs s_sign) (defBody s_sign) (defScope s_sign) [] [] fa fd) : FnOk P w K mg base CX0 1 fa fd ["number"] (spOf K false (C1 m_sign)) :=
  fn_ok1 (m := mb_sign) (post := fun _ => []) F sc_sign (by decide) rfl fun cdv A outer s H E hr v_number => (bs_ret (ep_sub (ep_intB (by rfl) B.b_int (Cq.e (cq_gt (ep_var 0) ep_int) _)) (ep_intB (by rfl) B.b_int (Cq.e (cq_lt (ep_var 0) ep_int) _))))
noncomputable def mb_turn (v_a : (Int × Int)) (v_b : (Int × Int)) (v_c : (Int × Int)) : Option (Out Int Unit) := (oret (Option.bind (bind3 (some v_a) (some v_b) (some v_c) m_twice_area) m_sign))
noncomputable def m_turn (v_a : (Int × Int)) (v_b : (Int × Int)) (v_c : (Int × Int)) : Option Int := retv (mb_turn v_a v_b v_c)
theorem sc_turn : FnScope ["a", "b", "c"] ["a", "b", "c"] (defScope s_turn) := ⟨rfl, rfl, rfl, by decide +kernel, rfl, by decide +kernel, by decide +kernel⟩
theorem ok_turn (B : Fr mg) (h_twice_area : Has P w K mg base 1 "twice_area" ["a", "b", "c"] (spOf K false (C3 m_twice_area))) (h_sign : Has P w K mg base 1 "sign" ["number"] (spOf K false (C1 m_sign))) (F : FunD K "turn" "turn" (defArgs s_turn) (defBody s_turn) (defScope s_turn) [] [] fa fd) : FnOk P w K mg base CX0 2 fa fd ["a", "b", "c"] (spOf K false (C3 m_turn)) :=
  fn_ok3 (m := mb_turn) (post := fun _ => []) F sc_turn (by decide) rfl fun cdv A outer s H E hr v_a v_b v_c => (bs_ret (ep_has h_sign hr (by decide) (ag_cons (ep_has h_twice_area hr (by decide) (ag_cons (ep_var 0) (ag_cons (ep_var 1) (ag_cons (ep_var 2) ag_nil))) c3) ag_nil) c1))
noncomputable def mb_in_order (v_points : (List (Int × Int))) : Option (Out (List Int) Unit) := oret (osortL v_points (orng (olen (some v_points))))
noncomputable def m_in_order (v_points : (List (Int × Int))) : Option (List Int) := retv (mb_in_order v_points)
theorem sc_in_order : FnScope ["points"] ["points"] (defScope s_in_order) := ⟨rfl, rfl, rfl, by decide +kernel, rfl, by decide +kernel, by decide +kernel⟩
abbrev lamN : Str := (("in_order" : Str) ++ ".<locals>.") ++ "<lambda>"
theorem ok_in_order (B : Fr mg) (hT : Tb.T = [((He.cT K ("in_order", none)).2, lamN)]) (TB : LamX.TabB base mg (He.codeOf K ("in_order", none)) (He.cT K ("in_order", none)).2) (F : FunD K "in_order" "in_order" (defArgs s_in_order) (defBody s_in_order) (defScope s_in_order) [] [] (He.fAd K ("in_order", none)) fd) : FnOk P w K mg base CX0 2 (He.fAd K ("in_order", none)) fd ["points"] (spOf K true (C1 m_in_order)) :=
  fn_okC1 (m := mb_in_order) (post := fun _ => []) F sc_in_order (by decide) rfl fun A outer s H E hr v_points => bs_retF (ep_sortlam (i := 0) (k := 0) (c := He.codeOf K ("in_order", none)) (P := (He.cT K ("in_order", none)).2) (ep_listR rfl (by rfl) B.b_list (by rfl) B.b_range (ep_len (by rfl) B.b_len (Ep.lp (ep_var 0)))) rfl (by rfl) B.b_sorted (by intro _; rfl) TB rfl hT hr (by rfl) (fun _ _ _ _ _ _ => rfl) rfl rfl rfl (by decide +kernel) (by decide +kernel) (by decide +kernel) (by decide +kernel) rfl rfl (by decide +kernel) (by decide +kernel) (by decide +kernel) (fun _ _ => rfl))
noncomputable def mb_first_off (v_points : (List (Int × Int))) (v_order : (List Int)) : Option (Out Int Unit) := (Option.bind (some (2 : Int)) fun (v_many : Int) => (thenO (loopW (fun (g1 : (Int)) => (oand (olt (some g1) (olen (some v_order))) (oeq (bind3 (oidx (some v_points) (oidx (some v_order) (some (0 : Int)))) (oidx (some v_points) (oidx (some v_order) (some (1 : Int)))) (oidx (some v_points) (oidx (some v_order) (some g1))) m_turn) (some (0 : Int))))) (fun (g1 : (Int)) => (Option.bind (oadd (some g1) (some (1 : Int))) fun (v_many : Int) => (some (.go (v_many) : Out Int (Int))))) (v_many)) fun (g1 : (Int)) => (oret (some g1))))
noncomputable def m_first_off (v_points : (List (Int × Int))) (v_order : (List Int)) : Option Int := retv (mb_first_off v_points v_order)
theorem sc_first_off : FnScope ["points", "order", "many"] ["points", "order"] (defScope s_first_off) := ⟨rfl, rfl, rfl, by decide +kernel, rfl, by decide +kernel, by decide +kernel⟩
theorem ok_first_off (B : Fr mg) (h_turn : Has P w K mg base 2 "turn" ["a", "b", "c"] (spOf K false (C3 m_turn))) (F : FunD K "first_off" "first_off" (defArgs s_first_off) (defBody s_first_off) (defScope s_first_off) [] [] fa fd) : FnOk P w K mg base CX0 3 fa fd ["points", "order"] (spOf K false (C2 m_first_off)) :=
  fn_ok2 (m := mb_first_off) (post := fun _ => []) F sc_first_off (by decide) rfl fun cdv A outer s H E hr v_points v_order => (bs_asg 2 sc_first_off.nd ep_int fun v_many => (bs_while (fun (g1 : (Int)) => [.imm (α := (List (Int × Int))) v_points, .imm (α := (List Int)) v_order, .imm (α := Int) g1]) (v_many) (Wk.same (Wk.same (Wk.same Wk.nil))) (fun g1 => (tp_w (wp_and (Cq.t (cq_lt (ep_var 2) (ep_len (by rfl) B.b_len (Ep.lp (ep_var 1)))) _) (wp_and1 (Cq.t (cq_eqS (ep_has h_turn hr (by decide) (ag_cons (ep_idx (Ep.lp (ep_var 0)) (ep_idx (Ep.lp (ep_var 1)) ep_int)) (ag_cons (ep_idx (Ep.lp (ep_var 0)) (ep_idx (Ep.lp (ep_var 1)) ep_int)) (ag_cons (ep_idx (Ep.lp (ep_var 0)) (ep_idx (Ep.lp (ep_var 1)) (ep_var 2))) ag_nil))) c3) ep_int) _))))) (fun g1 => (bs_asg 2 sc_first_off.nd (ep_add (ep_var 2) ep_int) fun v_many => (bs_go (Wk.same (Wk.same (Wk.same Wk.nil)))))) (fun g1 => (bs_ret (ep_var 2))) .never))
noncomputable def mb_joined (v_kept : (List (Int × Int))) (v_number : Int) : Option (Out (List Int) Unit) := (Option.bind (some (0 : Int)) fun (v_k : Int) => (thenO (loopW (fun (g1 : (Int)) => (oeq (osnd (oidx (some v_kept) (osub (some g1) (some (1 : Int))))) (ofst (oidx (some v_kept) (some g1))))) (fun (g1 : (Int)) => (Option.bind (oadd (some g1) (some (1 : Int))) fun (v_k : Int) => (some (.go (v_k) : Out (List Int) (Int))))) (v_k)) fun (g1 : (Int)) => (Option.bind (ocat (ocut (some v_kept) (osome (some g1)) (some none)) (ocut (some v_kept) (some none) (osome (some g1)))) fun (v_kept : (List (Int × Int))) => (oret (ocat (Option.bind (some v_kept) fun xs3 => if capOk xs3.length then lcM oYes (fun (x2 : (Int × Int)) => (ofst (some x2))) xs3 else none) (ocons (osnd (oidx (some v_kept) (oneg (some (1 : Int))))) (ocons (some v_number) (some ([] : List Int)))))))))
noncomputable def m_joined (v_kept : (List (Int × Int))) (v_number : Int) : Option (List Int) := retv (mb_joined v_kept v_number)
theorem sc_joined : FnScope ["kept", "number", "k", "pair"] ["kept", "number"] (defScope s_joined) := ⟨rfl, rfl, rfl, by decide +kernel, rfl, by decide +kernel, by decide +kernel⟩
theorem ok_joined (B : Fr mg)  (F : FunD K "joined" "joined" (defArgs s_joined) (defBody s_joined) (defScope s_joined) [] [] fa fd) : FnOk P w K mg base CX0 1 fa fd ["kept", "number"] (spOf K true (C2 m_joined)) :=
  fn_ok2 (m := mb_joined) (post := fun _ => []) F sc_joined (by decide) rfl fun cdv A outer s H E hr v_kept v_number => (bs_asg 2 sc_joined.nd ep_int fun v_k => (bs_while (fun (g1 : (Int)) => [.imm (α := (List (Int × Int))) v_kept, .imm (α := Int) v_number, .imm (α := Int) g1, .any]) (v_k) (Wk.same (Wk.same (Wk.same (Wk.same Wk.nil)))) (fun g1 => (Cq.t (cq_eqS (ep_snd (ep_idx (Ep.lp (ep_var 0)) (ep_sub (ep_var 2) ep_int))) (ep_fst (ep_idx (Ep.lp (ep_var 0)) (ep_var 2)))) _)) (fun g1 => (bs_asg 2 sc_joined.nd (ep_add (ep_var 2) ep_int) fun v_k => (bs_go (Wk.same (Wk.same (Wk.same (Wk.same Wk.nil))))))) (fun g1 => (bs_asg 0 sc_joined.nd (EpF.ep (ep_cat (EpF.lp (ep_cut (Ep.lp (ep_var 0)) (pp_some (ep_var 2)) pp_none)) (EpF.lp (ep_cut (Ep.lp (ep_var 0)) pp_none (pp_some (ep_var 2)))))) fun v_kept => (bs_retF (ep_cat (EpF.lp (LcOk.ep rfl sc_joined.nd (lc_C [("pair", 3)] (blkOk_by (N := ["kept", "number", "k", "pair"]) (sc := defScope s_joined) (by decide +kernel)) (Ep.lp (ep_var 0)) (fun _ _ _ _ _ => (pg_name (i := 3) sc_joined.nd rfl (by first | exact Or.inl rfl | exact Or.inr rfl))) (tg_name 3) (by intro j hj; simpa using hj) (fun _ _ _ _ _ => pts_nil) tts_nil (fun x2 _ _ _ _ _ => (ep_fst (ep_var 3))) (by intro _; rfl)))) (EpF.lp (ep_lst (al_cons (ep_snd (ep_idx (Ep.lp (ep_var 0)) (ep_neg ep_int))) (al_cons (ep_var 1) al_nil)))))))) .never))
noncomputable def mb_swept (v_points : (List (Int × Int))) : Option (Out ((List Tri) × (List Int)) Unit) := (Option.bind (Option.bind (some v_points) m_in_order) fun (v_order : (List Int)) => (Option.bind (bind2 (some v_points) (some v_order) m_first_off) fun (v_many : Int) => (oite (oge (some v_many) (olen (some v_order))) (noGo (oret (omk2 (some ([] : List Tri)) (some v_order)))) (Option.bind (ocut (some v_order) (some none) (osome (some v_many))) fun (v_row : (List Int)) => (thenO (oite (olt (bind3 (oidx (some v_points) (oidx (some v_row) (some (0 : Int)))) (oidx (some v_points) (oidx (some v_row) (some (1 : Int)))) (oidx (some v_points) (oidx (some v_order) (some v_many))) m_turn) (some (0 : Int))) (Option.bind (orev (some v_row)) fun (v_row : (List Int)) => (some (.go (v_row) : Out ((List Tri) × (List Int)) ((List Int))))) (some (.go (v_row) : Out ((List Tri) × (List Int)) ((List Int))))) fun (g1 : ((List Int))) => (Option.bind ((orng (osub (some v_many) (some (1 : Int)))).bind fun xs3 => if capOk xs3.length then lcM oYes (fun (x2 : Int) => (omk3 (oidx (some g1) (some x2)) (oidx (some g1) (oadd (some x2) (some (1 : Int)))) (oidx (some v_order) (some v_many)))) xs3 else none) fun (v_triangles : (List Tri)) => (Option.bind (ocat (some g1) (ocons (oidx (some v_order) (some v_many)) (some ([] : List Int)))) fun (v_around : (List Int)) => (Option.bind (ocut (some v_order) (osome (oadd (some v_many) (some (1 : Int)))) (some none)) fun xs10 => thenO (loopL (fun (x5 : Int) (g4 : ((List Tri) × (List Int))) => (Option.bind (some ([] : List (Int × Int))) fun (v_kept : (List (Int × Int))) => (Option.bind (orng (olen (some g4.2))) fun xs9 => thenO (loopL (fun (x7 : Int) (g6 : ((List Tri) × (List (Int × Int)))) => (Option.bind (oidx (some g4.2) (some x7)) fun (v_one : Int) => (Option.bind (oidx (some g4.2) (omod (oadd (some x7) (some (1 : Int))) (olen (some g4.2)))) fun (v_other : Int) => (thenO (oite (olt (bind3 (oidx (some v_points) (some v_one)) (oidx (some v_points) (some v_other)) (oidx (some v_points) (some x5)) m_turn) (some (0 : Int))) (Option.bind (oapp g6.1 (omk3 (some v_other) (some v_one) (some x5))) fun (v_triangles : List Tri) => (some (.go (v_triangles, g6.2) : Out ((List Tri) × (List Int)) ((List Tri) × (List (Int × Int)))))) (Option.bind (oapp g6.2 (omk2 (some v_one) (some v_other))) fun (v_kept : List (Int × Int)) => (some (.go (g6.1, v_kept) : Out ((List Tri) × (List Int)) ((List Tri) × (List (Int × Int))))))) fun (g8 : ((List Tri) × (List (Int × Int)))) => (some (.go (g8.1, g8.2) : Out ((List Tri) × (List Int)) ((List Tri) × (List (Int × Int))))))))) xs9 (g4.1, v_kept)) fun (g6 : ((List Tri) × (List (Int × Int)))) => (Option.bind (bind2 (some g6.2) (some x5) m_joined) fun (v_around : (List Int)) => (some (.go (g6.1, v_around) : Out ((List Tri) × (List Int)) ((List Tri) × (List Int)))))))) xs10 (v_triangles, v_around)) fun (g4 : ((List Tri) × (List Int))) => (oret (omk2 (some g4.1) (some g4.2)))))))))))
noncomputable def m_swept (v_points : (List (Int × Int))) : Option ((List Tri) × (List Int)) := retv (mb_swept v_points)
theorem sc_swept : FnScope ["points", "order", "many", "row", "triangles", "around", "number", "kept", "k", "one", "other"] ["points"] (defScope s_swept) := ⟨rfl, rfl, rfl, by decide +kernel, rfl, by decide +kernel, by decide +kernel⟩
theorem ok_swept (B : Fr mg) (h_in_order : Has P w K mg base 2 "in_order" ["points"] (spOf K true (C1 m_in_order))) (h_first_off : Has P w K mg base 3 "first_off" ["points", "order"] (spOf K false (C2 m_first_off))) (h_turn : Has P w K mg base 2 "turn" ["a", "b", "c"] (spOf K false (C3 m_turn))) (h_joined : Has P w K mg base 1 "joined" ["kept", "number"] (spOf K true (C2 m_joined))) (F : FunD K "swept" "swept" (defArgs s_swept) (defBody s_swept) (defScope s_swept) [] [] fa fd) : FnOk P w K mg base CX0 4 fa fd ["points"] (spOf K false (C1 m_swept)) :=
  fn_ok1 (m := mb_swept) (post := fun _ => []) F sc_swept (by decide) rfl fun cdv A outer s H E hr v_points => (bs_asg 1 sc_swept.nd (EpF.ep (ep_hasF h_in_order hr (by decide) (ag_cons (ep_var 0) ag_nil) c1)) fun v_order => (bs_asg 2 sc_swept.nd (ep_has h_first_off hr (by decide) (ag_cons (ep_var 0) (ag_cons (ep_var 1) ag_nil)) c2) fun v_many => (bs_ifR (Cq.t (cq_ge (ep_var 2) (ep_len (by rfl) B.b_len (Ep.lp (ep_var 1)))) _) (bs_ret (ep_pair (EpF.ep (ep_lst al_nil)) (ep_var 1))) (bs_asg 3 sc_swept.nd (EpF.ep (ep_cut (Ep.lp (ep_var 1)) pp_none (pp_some (ep_var 2)))) fun v_row => (bs_ifG (post1 := (fun (g1 : ((List Int))) => [.imm (α := (List (Int × Int))) v_points, .imm (α := (List Int)) v_order, .imm (α := Int) v_many, .imm (α := (List Int)) g1, .any, .any, .any, .any, .any, .any, .any])) (Cq.t (cq_lt (ep_has h_turn hr (by decide) (ag_cons (ep_idx (Ep.lp (ep_var 0)) (ep_idx (Ep.lp (ep_var 3)) ep_int)) (ag_cons (ep_idx (Ep.lp (ep_var 0)) (ep_idx (Ep.lp (ep_var 3)) ep_int)) (ag_cons (ep_idx (Ep.lp (ep_var 0)) (ep_idx (Ep.lp (ep_var 1)) (ep_var 2))) ag_nil))) c3) ep_int) _) (bs_asg 3 sc_swept.nd (EpF.ep (ep_listV rfl (by rfl) B.b_list (by rfl) B.b_reversed (Ep.lp (ep_var 3)))) fun v_row => (bs_go (Wk.same (Wk.same (Wk.same (Wk.same (Wk.same (Wk.same (Wk.same (Wk.same (Wk.same (Wk.same (Wk.same Wk.nil))))))))))))) (bs_go (Wk.same (Wk.same (Wk.same (Wk.same (Wk.same (Wk.same (Wk.same (Wk.same (Wk.same (Wk.same (Wk.same Wk.nil)))))))))))) fun g1 => (bs_asgLcM 4 rfl sc_swept.nd (lc_R [("k", 8)] (by rfl) B.b_range (blkOk_by (N := ["points", "order", "many", "row", "triangles", "around", "number", "kept", "k", "one", "other"]) (sc := defScope s_swept) (by decide +kernel)) (ep_sub (ep_var 2) ep_int) (fun _ _ _ _ _ => (pg_name (i := 8) sc_swept.nd rfl (by first | exact Or.inl rfl | exact Or.inr rfl))) (tg_name 8) (by intro j hj; simpa using hj) (fun _ _ _ _ _ => pts_nil) tts_nil (fun x2 _ _ _ _ _ => (ep_tri (ep_idx (Ep.lp (ep_var 3)) (ep_var 8)) (ep_idx (Ep.lp (ep_var 3)) (ep_add (ep_var 8) ep_int)) (ep_idx (Ep.lp (ep_var 1)) (ep_var 2)))) (by intro _; rfl) (by intro _; rfl)) fun v_triangles => (bs_asg 5 sc_swept.nd (EpF.ep (ep_cat (Ep.lp (ep_var 3)) (EpF.lp (ep_lst (al_cons (ep_idx (Ep.lp (ep_var 1)) (ep_var 2)) al_nil))))) fun v_around => (bs_for (fun (g4 : ((List Tri) × (List Int))) => [.imm (α := (List (Int × Int))) v_points, .imm (α := (List Int)) v_order, .imm (α := Int) v_many, .imm (α := (List Int)) g1, .mut (ML.mk (α := Tri) g4.1), .imm (α := (List Int)) g4.2, .any, .any, .any, .any, .any]) (v_triangles, v_around) (pg_name (i := 6) sc_swept.nd rfl (by first | exact Or.inl rfl | exact Or.inr rfl)) (tg_name 6) (EpF.ep (ep_cut (Ep.lp (ep_var 1)) (pp_some (ep_add (ep_var 2) ep_int)) pp_none)) (Wk.same (Wk.same (Wk.same (Wk.same (Wk.same (Wk.same (Wk.same (Wk.same (Wk.same (Wk.same (Wk.same Wk.nil))))))))))) (fun x5 g4 => (bs_asgM 7 sc_swept.nd (ep_lst al_nil) fun v_kept => (bs_forR (fun (g6 : ((List Tri) × (List (Int × Int)))) => [.imm (α := (List (Int × Int))) v_points, .imm (α := (List Int)) v_order, .imm (α := Int) v_many, .imm (α := (List Int)) g1, .mut (ML.mk (α := Tri) g6.1), .imm (α := (List Int)) g4.2, .imm (α := Int) x5, .mut (ML.mk (α := (Int × Int)) g6.2), .any, .any, .any]) (g4.1, v_kept) (by rfl) B.b_range (pg_name (i := 8) sc_swept.nd rfl (by first | exact Or.inl rfl | exact Or.inr rfl)) (tg_name 8) (ep_len (by rfl) B.b_len (Ep.lp (ep_var 5))) (Wk.same (Wk.same (Wk.same (Wk.same (Wk.same (Wk.same (Wk.same (Wk.same (Wk.same (Wk.same (Wk.same Wk.nil))))))))))) (fun x7 g6 => (bs_asg 9 sc_swept.nd (ep_idx (Ep.lp (ep_var 5)) (ep_var 8)) fun v_one => (bs_asg 10 sc_swept.nd (ep_idx (Ep.lp (ep_var 5)) (ep_mod (ep_add (ep_var 8) ep_int) (ep_len (by rfl) B.b_len (Ep.lp (ep_var 5))))) fun v_other => (bs_ifG (post1 := (fun (g8 : ((List Tri) × (List (Int × Int)))) => [.imm (α := (List (Int × Int))) v_points, .imm (α := (List Int)) v_order, .imm (α := Int) v_many, .imm (α := (List Int)) g1, .mut (ML.mk (α := Tri) g8.1), .imm (α := (List Int)) g4.2, .imm (α := Int) x5, .mut (ML.mk (α := (Int × Int)) g8.2), .imm (α := Int) x7, .imm (α := Int) v_one, .imm (α := Int) v_other])) (Cq.t (cq_lt (ep_has h_turn hr (by decide) (ag_cons (ep_idx (Ep.lp (ep_var 0)) (ep_var 9)) (ag_cons (ep_idx (Ep.lp (ep_var 0)) (ep_var 10)) (ag_cons (ep_idx (Ep.lp (ep_var 0)) (ep_var 6)) ag_nil))) c3) ep_int) _) (bs_app (xs := ML.mk (α := Tri) g6.1) 4 (ep_tri (ep_var 10) (ep_var 9) (ep_var 6)) fun v_triangles => (bs_go (Wk.same (Wk.same (Wk.same (Wk.same (Wk.same (Wk.same (Wk.same (Wk.same (Wk.same (Wk.same (Wk.same Wk.nil))))))))))))) (bs_app (xs := ML.mk (α := (Int × Int)) g6.2) 7 (ep_pair (ep_var 9) (ep_var 10)) fun v_kept => (bs_go (Wk.same (Wk.same (Wk.same (Wk.same (Wk.same (Wk.same (Wk.same (Wk.same (Wk.same (Wk.same (Wk.same Wk.nil))))))))))))) fun g8 => (bs_go (Wk.same (Wk.same (Wk.same (Wk.same (Wk.same (Wk.same (Wk.same (Wk.same (Wk.any (Wk.any (Wk.any Wk.nil)))))))))))))))) (fun g6 => (bs_freeze (xs := ML.mk (α := (Int × Int)) g6.2) 7 (bs_asg 5 sc_swept.nd (EpF.ep (ep_hasF h_joined hr (by decide) (ag_cons (ep_var 7) (ag_cons (ep_var 6) ag_nil)) c2)) fun v_around => (bs_go (Wk.same (Wk.same (Wk.same (Wk.same (Wk.same (Wk.same (Wk.any (Wk.any (Wk.same (Wk.same (Wk.same Wk.nil))))))))))))))) .never rfl))) (fun g4 => (bs_freeze (xs := ML.mk (α := Tri) g4.1) 4 (bs_ret (ep_pair (ep_var 4) (ep_var 5))))) .never rfl))))))))
noncomputable def mb_hull (v_points : (List (Int × Int))) : Option (Out (List Int) Unit) := (Option.bind (Option.bind (some v_points) m_in_order) fun (v_order : (List Int)) => (Option.bind (osnd (Option.bind (some v_points) m_swept)) fun (v_around : (List Int)) => (Option.bind (oindx (some v_around) (oidx (some v_order) (some (0 : Int)))) fun (v_at : Int) => (oret (ocat (ocut (some v_around) (osome (some v_at)) (some none)) (ocut (some v_around) (some none) (osome (some v_at))))))))
noncomputable def m_hull (v_points : (List (Int × Int))) : Option (List Int) := retv (mb_hull v_points)
theorem sc_hull : FnScope ["points", "order", "around", "at"] ["points"] (defScope s_hull) := ⟨rfl, rfl, rfl, by decide +kernel, rfl, by decide +kernel, by decide +kernel⟩
theorem ok_hull (B : Fr mg) (h_in_order : Has P w K mg base 2 "in_order" ["points"] (spOf K true (C1 m_in_order))) (h_swept : Has P w K mg base 4 "swept" ["points"] (spOf K false (C1 m_swept))) (F : FunD K "hull" "hull" (defArgs s_hull) (defBody s_hull) (defScope s_hull) [] [] fa fd) : FnOk P w K mg base CX0 5 fa fd ["points"] (spOf K true (C1 m_hull)) :=
  fn_ok1 (m := mb_hull) (post := fun _ => []) F sc_hull (by decide) rfl fun cdv A outer s H E hr v_points => (bs_asg 1 sc_hull.nd (EpF.ep (ep_hasF h_in_order hr (by decide) (ag_cons (ep_var 0) ag_nil) c1)) fun v_order => (bs_asg 2 sc_hull.nd (ep_snd (ep_has h_swept hr (by decide) (ag_cons (ep_var 0) ag_nil) c1)) fun v_around => (bs_asg 3 sc_hull.nd (ep_index hr.units65 (Ep.lp (ep_var 2)) (ep_idx (Ep.lp (ep_var 1)) ep_int)) fun v_at => (bs_retF (ep_cat (EpF.lp (ep_cut (Ep.lp (ep_var 2)) (pp_some (ep_var 3)) pp_none)) (EpF.lp (ep_cut (Ep.lp (ep_var 2)) pp_none (pp_some (ep_var 3)))))))))
noncomputable def mb__law_cell_at (v_l_script : Script) (v_l_k : Int) : Option (Out Int Unit) := (oite (olt (some v_l_k) (oslen (some v_l_script))) (noGo (oret (osidx (some v_l_script) (some v_l_k)))) (oret (some (0 : Int))))
noncomputable def m__law_cell_at (v_l_script : Script) (v_l_k : Int) : Option Int := retv (mb__law_cell_at v_l_script v_l_k)
theorem sc__law_cell_at : FnScope ["_law_script", "_law_k"] ["_law_script", "_law_k"] (defScope s__law_cell_at) := ⟨rfl, rfl, rfl, by decide +kernel, rfl, by decide +kernel, by decide +kernel⟩
theorem ok__law_cell_at (B : Fr mg)  (F : FunD K "_law_cell_at" "_law_cell_at" (defArgs s__law_cell_at) (defBody s__law_cell_at) (defScope s__law_cell_at) [] [] fa fd) : FnOk P w K mg base CX0 1 fa fd ["_law_script", "_law_k"] (spOf K false (C2 m__law_cell_at)) :=
  fn_ok2 (m := mb__law_cell_at) (post := fun _ => []) F sc__law_cell_at (by decide) rfl fun cdv A outer s H E hr v_l_script v_l_k => (bs_ifR (Cq.t (cq_lt (ep_var 1) (ep_slen (by rfl) B.b_len (ep_var 0))) _) (bs_ret (ep_sidx (ep_var 0) (ep_var 1))) (bs_ret ep_int))
noncomputable def mb__law_mixed (v_l_cell : Int) (v_l_k : Int) : Option (Out Int Unit) := (oret (omod (omul (oadd (oadd (some v_l_cell) (omul (some (61 : Int)) (some v_l_k))) (some (7 : Int))) (opow (some (1000003 : Int)) (some (3 : Int)))) (oadd (opow (some (10 : Int)) (some (24 : Int))) (some (7 : Int)))))
noncomputable def m__law_mixed (v_l_cell : Int) (v_l_k : Int) : Option Int := retv (mb__law_mixed v_l_cell v_l_k)
theorem sc__law_mixed : FnScope ["_law_cell", "_law_k"] ["_law_cell", "_law_k"] (defScope s__law_mixed) := ⟨rfl, rfl, rfl, by decide +kernel, rfl, by decide +kernel, by decide +kernel⟩
theorem ok__law_mixed (B : Fr mg)  (F : FunD K "_law_mixed" "_law_mixed" (defArgs s__law_mixed) (defBody s__law_mixed) (defScope s__law_mixed) [] [] fa fd) : FnOk P w K mg base CX0 1 fa fd ["_law_cell", "_law_k"] (spOf K false (C2 m__law_mixed)) :=
  fn_ok2 (m := mb__law_mixed) (post := fun _ => []) F sc__law_mixed (by decide) rfl fun cdv A outer s H E hr v_l_cell v_l_k => (bs_ret (ep_mod (ep_mul (ep_add (ep_add (ep_var 0) (ep_mul ep_int (ep_var 1))) ep_int) (ep_pow ep_int ep_int)) (ep_add (ep_pow ep_int ep_int) ep_int)))
noncomputable def mb__law_point (v_l_kind : Int) (v_l_number : Int) : Option (Out (Int × Int) Unit) := (oite (oeq (some v_l_kind) (some (0 : Int))) (noGo (oret (omk2 (omod (some v_l_number) (some (3 : Int))) (omod (ofdiv (some v_l_number) (some (3 : Int))) (some (3 : Int)))))) (oite (oeq (some v_l_kind) (some (1 : Int))) (noGo (oret (omk2 (osub (omod (some v_l_number) (some (5 : Int))) (some (1 : Int))) (omod (ofdiv (some v_l_number) (some (5 : Int))) (some (5 : Int)))))) (oite (oeq (some v_l_kind) (some (2 : Int))) (noGo (Option.bind (osub (omod (ofdiv (some v_l_number) (some (2000001 : Int))) (some (2000001 : Int))) (some (1000000 : Int))) fun (v_l_y : Int) => (oret (omk2 (osub (omod (some v_l_number) (some (2000001 : Int))) (some (1000000 : Int))) (some v_l_y))))) (oite (oeq (some v_l_kind) (some (3 : Int))) (noGo (Option.bind (ob2i (oeq (omod (ofdiv (some v_l_number) (some (9 : Int))) (some (5 : Int))) (some (1 : Int)))) fun (v_l_off : Int) => (oret (omk2 (osub (omod (some v_l_number) (some (9 : Int))) (some (4 : Int))) (oadd (omul (some (2 : Int)) (omod (some v_l_number) (some (9 : Int)))) (some v_l_off)))))) (oite (oand (oeq (some v_l_kind) (some (4 : Int))) (ogt (omod (ofdiv (some v_l_number) (some (12 : Int))) (some (6 : Int))) (some (0 : Int)))) (noGo (Option.bind (ocons (omk2 (some (5 : Int)) (some (0 : Int))) (ocons (omk2 (some (4 : Int)) (some (3 : Int))) (ocons (omk2 (some (3 : Int)) (some (4 : Int))) (ocons (omk2 (some (0 : Int)) (some (5 : Int))) (ocons (omk2 (oneg (some (3 : Int))) (some (4 : Int))) (ocons (omk2 (oneg (some (4 : Int))) (some (3 : Int))) (some ([] : List (Int × Int))))))))) fun (v_l_some : (List (Int × Int))) => (Option.bind (ocat (some v_l_some) (Option.bind (some v_l_some) fun xs2 => if capOk xs2.length then lcM oYes (fun (x1 : (Int × Int)) => (omk2 (oneg (some x1.1)) (oneg (some x1.2)))) xs2 else none)) fun (v_l_some : (List (Int × Int))) => (oret (oidx (some v_l_some) (omod (some v_l_number) (some (12 : Int)))))))) (oret (omk2 (osub (omod (some v_l_number) (some (12 : Int))) (some (6 : Int))) (osub (omod (ofdiv (some v_l_number) (some (12 : Int))) (some (9 : Int))) (some (4 : Int))))))))))
noncomputable def m__law_point (v_l_kind : Int) (v_l_number : Int) : Option (Int × Int) := retv (mb__law_point v_l_kind v_l_number)
theorem sc__law_point : FnScope ["_law_kind", "_law_number", "_law_y", "_law_off", "_law_some", "_law_x"] ["_law_kind", "_law_number"] (defScope s__law_point) := ⟨rfl, rfl, rfl, by decide +kernel, rfl, by decide +kernel, by decide +kernel⟩
theorem ok__law_point (B : Fr mg)  (F : FunD K "_law_point" "_law_point" (defArgs s__law_point) (defBody s__law_point) (defScope s__law_point) [] [] fa fd) : FnOk P w K mg base CX0 1 fa fd ["_law_kind", "_law_number"] (spOf K false (C2 m__law_point)) :=
  fn_ok2 (m := mb__law_point) (post := fun _ => []) F sc__law_point (by decide) rfl fun cdv A outer s H E hr v_l_kind v_l_number => (bs_ifR (Cq.t (cq_eqS (ep_var 0) ep_int) _) (bs_ret (ep_pair (ep_mod (ep_var 1) ep_int) (ep_mod (ep_fdiv (ep_var 1) ep_int) ep_int))) (bs_ifR (Cq.t (cq_eqS (ep_var 0) ep_int) _) (bs_ret (ep_pair (ep_sub (ep_mod (ep_var 1) ep_int) ep_int) (ep_mod (ep_fdiv (ep_var 1) ep_int) ep_int))) (bs_ifR (Cq.t (cq_eqS (ep_var 0) ep_int) _) (bs_asg 2 sc__law_point.nd (ep_sub (ep_mod (ep_fdiv (ep_var 1) ep_int) ep_int) ep_int) fun v_l_y => (bs_ret (ep_pair (ep_sub (ep_mod (ep_var 1) ep_int) ep_int) (ep_var 2)))) (bs_ifR (Cq.t (cq_eqS (ep_var 0) ep_int) _) (bs_asg 3 sc__law_point.nd (ep_intB (by rfl) B.b_int (Cq.e (cq_eqS (ep_mod (ep_fdiv (ep_var 1) ep_int) ep_int) ep_int) _)) fun v_l_off => (bs_ret (ep_pair (ep_sub (ep_mod (ep_var 1) ep_int) ep_int) (ep_add (ep_mul ep_int (ep_mod (ep_var 1) ep_int)) (ep_var 3))))) (bs_ifR (tp_w (wp_and (Cq.t (cq_eqS (ep_var 0) ep_int) _) (wp_and1 (Cq.t (cq_gt (ep_mod (ep_fdiv (ep_var 1) ep_int) ep_int) ep_int) _)))) (bs_asg 4 sc__law_point.nd (EpF.ep (ep_lst (al_cons (ep_pair ep_int ep_int) (al_cons (ep_pair ep_int ep_int) (al_cons (ep_pair ep_int ep_int) (al_cons (ep_pair ep_int ep_int) (al_cons (ep_pair (ep_neg ep_int) ep_int) (al_cons (ep_pair (ep_neg ep_int) ep_int) al_nil)))))))) fun v_l_some => (bs_asg 4 sc__law_point.nd (EpF.ep (ep_cat (Ep.lp (ep_var 4)) (EpF.lp (LcOk.ep rfl sc__law_point.nd (lc_C [("_law_x", 5), ("_law_y", 2)] (blkOk_by (N := ["_law_kind", "_law_number", "_law_y", "_law_off", "_law_some", "_law_x"]) (sc := defScope s__law_point) (by decide +kernel)) (Ep.lp (ep_var 4)) (fun _ _ _ _ _ => (pg_tup rfl (pgs_cons (pg_name (i := 5) sc__law_point.nd rfl (by first | exact Or.inl rfl | exact Or.inr rfl)) (pgs_cons (pg_name (i := 2) sc__law_point.nd rfl (by first | exact Or.inl rfl | exact Or.inr rfl)) pgs_nil)))) (tg_pair 5 2) (by intro j hj; simpa using hj) (fun _ _ _ _ _ => pts_nil) tts_nil (fun x1 _ _ _ _ _ => (ep_pair (ep_neg (ep_var 5)) (ep_neg (ep_var 2)))) (by intro _; rfl)))))) fun v_l_some => (bs_ret (ep_idx (Ep.lp (ep_var 4)) (ep_mod (ep_var 1) ep_int))))) (bs_ret (ep_pair (ep_sub (ep_mod (ep_var 1) ep_int) ep_int) (ep_sub (ep_mod (ep_fdiv (ep_var 1) ep_int) ep_int) ep_int))))))))
noncomputable def mb__law_grown (v_l_point_here : (Int × Int)) (v_l_kind : Int) (v_l_by : Int) (v_l_number : Int) : Option (Out (Int × Int) Unit) := (Option.bind (some v_l_point_here) fun (y1 : (Int × Int)) => (oite (oor (oeq (some v_l_kind) (some (2 : Int))) (olt (omod (some v_l_by) (some (4 : Int))) (some (2 : Int)))) (noGo (oret (some v_l_point_here))) (Option.bind (oidx (ocons (some (1000 : Int)) (ocons (some (50000 : Int)) (some ([] : List Int)))) (osub (omod (some v_l_by) (some (4 : Int))) (some (2 : Int)))) fun (v_l_times : Int) => (Option.bind (osub (omod (ofdiv (some v_l_by) (some (4 : Int))) (some (90001 : Int))) (some (45000 : Int))) fun (v_l_away : Int) => (Option.bind (ob2i (oeq (omod (ofdiv (some v_l_number) (opow (some (10 : Int)) (some (9 : Int)))) (some (9 : Int))) (some (1 : Int)))) fun (v_l_off : Int) => (oret (omk2 (oadd (oadd (omul (some y1.1) (some v_l_times)) (some v_l_away)) (some v_l_off)) (osub (omul (some y1.2) (some v_l_times)) (some v_l_away)))))))))
noncomputable def m__law_grown (v_l_point_here : (Int × Int)) (v_l_kind : Int) (v_l_by : Int) (v_l_number : Int) : Option (Int × Int) := retv (mb__law_grown v_l_point_here v_l_kind v_l_by v_l_number)
theorem sc__law_grown : FnScope ["_law_point_here", "_law_kind", "_law_by", "_law_number", "_law_x", "_law_y", "_law_times", "_law_away", "_law_off"] ["_law_point_here", "_law_kind", "_law_by", "_law_number"] (defScope s__law_grown) := ⟨rfl, rfl, rfl, by decide +kernel, rfl, by decide +kernel, by decide +kernel⟩
theorem ok__law_grown (B : Fr mg)  (F : FunD K "_law_grown" "_law_grown" (defArgs s__law_grown) (defBody s__law_grown) (defScope s__law_grown) [] [] fa fd) : FnOk P w K mg base CX0 1 fa fd ["_law_point_here", "_law_kind", "_law_by", "_law_number"] (spOf K false (C4 m__law_grown)) :=
  fn_ok4 (m := mb__law_grown) (post := fun _ => []) F sc__law_grown (by decide) rfl fun cdv A outer s H E hr v_l_point_here v_l_kind v_l_by v_l_number => (bs_unp (pg_tup rfl (pgs_cons (pg_name (i := 4) sc__law_grown.nd rfl (by first | exact Or.inl rfl | exact Or.inr rfl)) (pgs_cons (pg_name (i := 5) sc__law_grown.nd rfl (by first | exact Or.inl rfl | exact Or.inr rfl)) pgs_nil))) (tg_pair 4 5) (ep_var 0) fun y1 => (bs_ifR (tp_w (wp_or (Cq.t (cq_eqS (ep_var 1) ep_int) _) (wp_or1 (Cq.t (cq_lt (ep_mod (ep_var 2) ep_int) ep_int) _)))) (bs_ret (ep_var 0)) (bs_asg 6 sc__law_grown.nd (ep_idx (EpF.lp (ep_lst (al_cons ep_int (al_cons ep_int al_nil)))) (ep_sub (ep_mod (ep_var 2) ep_int) ep_int)) fun v_l_times => (bs_asg 7 sc__law_grown.nd (ep_sub (ep_mod (ep_fdiv (ep_var 2) ep_int) ep_int) ep_int) fun v_l_away => (bs_asg 8 sc__law_grown.nd (ep_intB (by rfl) B.b_int (Cq.e (cq_eqS (ep_mod (ep_fdiv (ep_var 3) (ep_pow ep_int ep_int)) ep_int) ep_int) _)) fun v_l_off => (bs_ret (ep_pair (ep_add (ep_add (ep_mul (ep_var 4) (ep_var 6)) (ep_var 7)) (ep_var 8)) (ep_sub (ep_mul (ep_var 5) (ep_var 6)) (ep_var 7)))))))))
noncomputable def mb__law_points (v_l_script : Script) (v_l_most : Int) : Option (Out (List (Int × Int)) Unit) := (Option.bind (bind2 (some v_l_script) (some (0 : Int)) m__law_cell_at) fun (v_l_first : Int) => (Option.bind (omod (ofdiv (some v_l_first) (some v_l_most)) (some (6 : Int))) fun (v_l_kind : Int) => (Option.bind (some ([] : List (Int × Int))) fun (v_l_points_here : (List (Int × Int))) => (Option.bind (orng (oadd (some (1 : Int)) (omod (some v_l_first) (some v_l_most)))) fun xs4 => thenO (loopL (fun (x2 : Int) (g1 : ((List (Int × Int)))) => (Option.bind (bind2 (bind2 (some v_l_script) (oadd (some (1 : Int)) (some x2)) m__law_cell_at) (some x2) m__law_mixed) fun (v_l_number : Int) => (Option.bind (bind2 (some v_l_kind) (some v_l_number) m__law_point) fun (v_l_point_here : (Int × Int)) => (Option.bind (bind4 (some v_l_point_here) (some v_l_kind) (ofdiv (ofdiv (some v_l_first) (some v_l_most)) (some (6 : Int))) (some v_l_number) m__law_grown) fun (v_l_point_here : (Int × Int)) => (thenO (oite (onin (some v_l_point_here) (some g1)) (Option.bind (oapp g1 (some v_l_point_here)) fun (v_l_points_here : List (Int × Int)) => (some (.go (v_l_points_here) : Out (List (Int × Int)) ((List (Int × Int)))))) (some (.go (g1) : Out (List (Int × Int)) ((List (Int × Int)))))) fun (g3 : ((List (Int × Int)))) => (some (.go (g3) : Out (List (Int × Int)) ((List (Int × Int)))))))))) xs4 (v_l_points_here)) fun (g1 : ((List (Int × Int)))) => (some (.ret g1))))))
noncomputable def m__law_points (v_l_script : Script) (v_l_most : Int) : Option (List (Int × Int)) := retv (mb__law_points v_l_script v_l_most)
theorem sc__law_points : FnScope ["_law_script", "_law_most", "_law_first", "_law_kind", "_law_points_here", "_law_k", "_law_number", "_law_point_here"] ["_law_script", "_law_most"] (defScope s__law_points) := ⟨rfl, rfl, rfl, by decide +kernel, rfl, by decide +kernel, by decide +kernel⟩
theorem ok__law_points (B : Fr mg) (h__law_cell_at : Has P w K mg base 1 "_law_cell_at" ["_law_script", "_law_k"] (spOf K false (C2 m__law_cell_at))) (h__law_mixed : Has P w K mg base 1 "_law_mixed" ["_law_cell", "_law_k"] (spOf K false (C2 m__law_mixed))) (h__law_point : Has P w K mg base 1 "_law_point" ["_law_kind", "_law_number"] (spOf K false (C2 m__law_point))) (h__law_grown : Has P w K mg base 1 "_law_grown" ["_law_point_here", "_law_kind", "_law_by", "_law_number"] (spOf K false (C4 m__law_grown))) (F : FunD K "_law_points" "_law_points" (defArgs s__law_points) (defBody s__law_points) (defScope s__law_points) [] [] fa fd) : FnOk P w K mg base CX0 2 fa fd ["_law_script", "_law_most"] (spOf K true (C2 m__law_points)) :=
  fn_ok2 (m := mb__law_points) (post := fun _ => []) F sc__law_points (by decide) rfl fun cdv A outer s H E hr v_l_script v_l_most => (bs_asg 2 sc__law_points.nd (ep_has h__law_cell_at hr (by decide) (ag_cons (ep_var 0) (ag_cons ep_int ag_nil)) c2) fun v_l_first => (bs_asg 3 sc__law_points.nd (ep_mod (ep_fdiv (ep_var 2) (ep_var 1)) ep_int) fun v_l_kind => (bs_asgM 4 sc__law_points.nd (ep_lst al_nil) fun v_l_points_here => (bs_forR (fun (g1 : ((List (Int × Int)))) => [.imm (α := Script) v_l_script, .imm (α := Int) v_l_most, .imm (α := Int) v_l_first, .imm (α := Int) v_l_kind, .mut (ML.mk (α := (Int × Int)) g1), .any, .any, .any]) (v_l_points_here) (by rfl) B.b_range (pg_name (i := 5) sc__law_points.nd rfl (by first | exact Or.inl rfl | exact Or.inr rfl)) (tg_name 5) (ep_add ep_int (ep_mod (ep_var 2) (ep_var 1))) (Wk.same (Wk.same (Wk.same (Wk.same (Wk.same (Wk.same (Wk.same (Wk.same Wk.nil)))))))) (fun x2 g1 => (bs_asg 6 sc__law_points.nd (ep_has h__law_mixed hr (by decide) (ag_cons (ep_has h__law_cell_at hr (by decide) (ag_cons (ep_var 0) (ag_cons (ep_add ep_int (ep_var 5)) ag_nil)) c2) (ag_cons (ep_var 5) ag_nil)) c2) fun v_l_number => (bs_asg 7 sc__law_points.nd (ep_has h__law_point hr (by decide) (ag_cons (ep_var 3) (ag_cons (ep_var 6) ag_nil)) c2) fun v_l_point_here => (bs_asg 7 sc__law_points.nd (ep_has h__law_grown hr (by decide) (ag_cons (ep_var 7) (ag_cons (ep_var 3) (ag_cons (ep_fdiv (ep_fdiv (ep_var 2) (ep_var 1)) ep_int) (ag_cons (ep_var 6) ag_nil)))) c4) fun v_l_point_here => (bs_ifG (post1 := (fun (g3 : ((List (Int × Int)))) => [.imm (α := Script) v_l_script, .imm (α := Int) v_l_most, .imm (α := Int) v_l_first, .imm (α := Int) v_l_kind, .mut (ML.mk (α := (Int × Int)) g3), .imm (α := Int) x2, .imm (α := Int) v_l_number, .imm (α := (Int × Int)) v_l_point_here])) (Cq.t (cq_nin hr.units65 (ep_var 7) (lp_var 4)) _) (bs_app (xs := ML.mk (α := (Int × Int)) g1) 4 (ep_var 7) fun v_l_points_here => (bs_go (Wk.same (Wk.same (Wk.same (Wk.same (Wk.same (Wk.same (Wk.same (Wk.same Wk.nil)))))))))) (bs_go (Wk.same (Wk.same (Wk.same (Wk.same (Wk.same (Wk.same (Wk.same (Wk.same Wk.nil))))))))) fun g3 => (bs_go (Wk.same (Wk.same (Wk.same (Wk.same (Wk.same (Wk.any (Wk.any (Wk.any Wk.nil)))))))))))))) (fun g1 => (bs_retM 4)) .never rfl))))
noncomputable def mb__law_area (v_l_a : (Int × Int)) (v_l_b : (Int × Int)) (v_l_c : (Int × Int)) : Option (Out Int Unit) := (Option.bind (omul (osub (ofst (some v_l_b)) (ofst (some v_l_a))) (osub (osnd (some v_l_c)) (osnd (some v_l_b)))) fun (v_l_one : Int) => (oret (osub (some v_l_one) (omul (osub (osnd (some v_l_b)) (osnd (some v_l_a))) (osub (ofst (some v_l_c)) (ofst (some v_l_b)))))))
noncomputable def m__law_area (v_l_a : (Int × Int)) (v_l_b : (Int × Int)) (v_l_c : (Int × Int)) : Option Int := retv (mb__law_area v_l_a v_l_b v_l_c)
theorem sc__law_area : FnScope ["_law_a", "_law_b", "_law_c", "_law_one"] ["_law_a", "_law_b", "_law_c"] (defScope s__law_area) := ⟨rfl, rfl, rfl, by decide +kernel, rfl, by decide +kernel, by decide +kernel⟩
theorem ok__law_area (B : Fr mg)  (F : FunD K "_law_area" "_law_area" (defArgs s__law_area) (defBody s__law_area) (defScope s__law_area) [] [] fa fd) : FnOk P w K mg base CX0 1 fa fd ["_law_a", "_law_b", "_law_c"] (spOf K false (C3 m__law_area)) :=
  fn_ok3 (m := mb__law_area) (post := fun _ => []) F sc__law_area (by decide) rfl fun cdv A outer s H E hr v_l_a v_l_b v_l_c => (bs_asg 3 sc__law_area.nd (ep_mul (ep_sub (ep_fst (ep_var 1)) (ep_fst (ep_var 0))) (ep_sub (ep_snd (ep_var 2)) (ep_snd (ep_var 1)))) fun v_l_one => (bs_ret (ep_sub (ep_var 3) (ep_mul (ep_sub (ep_snd (ep_var 1)) (ep_snd (ep_var 0))) (ep_sub (ep_fst (ep_var 2)) (ep_fst (ep_var 1)))))))
noncomputable def mb__law_whole (v_l_found : Int) : Option (Out Bool Unit) := (oret (oand (oisi (some v_l_found) true) (onot (oisi (some v_l_found) false))))
noncomputable def m__law_whole (v_l_found : Int) : Option Bool := retv (mb__law_whole v_l_found)
theorem sc__law_whole : FnScope ["_law_found"] ["_law_found"] (defScope s__law_whole) := ⟨rfl, rfl, rfl, by decide +kernel, rfl, by decide +kernel, by decide +kernel⟩
theorem ok__law_whole (B : Fr mg)  (F : FunD K "_law_whole" "_law_whole" (defArgs s__law_whole) (defBody s__law_whole) (defScope s__law_whole) [] [] fa fd) : FnOk P w K mg base CX0 1 fa fd ["_law_found"] (spOf K false (C1 m__law_whole)) :=
  fn_ok1 (m := mb__law_whole) (post := fun _ => []) F sc__law_whole (by decide) rfl fun cdv A outer s H E hr v_l_found => (bs_ret (ep_and (ep_isi (t := "int") true B.b_isinstance B.b_int (by decide +kernel) (by decide +kernel) (ep_var 0)) (ep_one (ep_not (ep_isi (t := "bool") false B.b_isinstance B.b_bool (by decide +kernel) (by decide +kernel) (ep_var 0))))))
noncomputable def mb__law_numbers (v_l_found : (List Int)) (v_l_due : (List Int)) : Option (Out Bool Unit) := (oite (oor (onot (oisi (some v_l_found) true)) (one_ (some v_l_found) (some v_l_due))) (noGo (oret (some false))) (oret (oall (Option.bind (some v_l_found) fun xs2 => if capOk xs2.length then lcM oYes (fun (x1 : Int) => (Option.bind (some x1) m__law_whole)) xs2 else none))))
noncomputable def m__law_numbers (v_l_found : (List Int)) (v_l_due : (List Int)) : Option Bool := retv (mb__law_numbers v_l_found v_l_due)
theorem sc__law_numbers : FnScope ["_law_found", "_law_due", "_law_one"] ["_law_found", "_law_due"] (defScope s__law_numbers) := ⟨rfl, rfl, rfl, by decide +kernel, rfl, by decide +kernel, by decide +kernel⟩
theorem ok__law_numbers (B : Fr mg) (h__law_whole : Has P w K mg base 1 "_law_whole" ["_law_found"] (spOf K false (C1 m__law_whole))) (F : FunD K "_law_numbers" "_law_numbers" (defArgs s__law_numbers) (defBody s__law_numbers) (defScope s__law_numbers) [] [] fa fd) : FnOk P w K mg base CX0 2 fa fd ["_law_found", "_law_due"] (spOf K false (C2 m__law_numbers)) :=
  fn_ok2 (m := mb__law_numbers) (post := fun _ => []) F sc__law_numbers (by decide) rfl fun cdv A outer s H E hr v_l_found v_l_due => (bs_ifR (tp_w (wp_or (tp_not (tp_val (ep_isi (t := "list") true B.b_isinstance B.b_list (by decide +kernel) (by decide +kernel) (ep_var 0)))) (wp_or1 (Cq.t (cq_neD hr.units (ep_var 0) (ep_var 1)) _)))) (bs_ret ep_bl) (bs_ret (ep_all rfl (by rfl) B.b_all (EpF.lp (LcOk.ep rfl sc__law_numbers.nd (lc_C [("_law_one", 2)] (blkOk_by (N := ["_law_found", "_law_due", "_law_one"]) (sc := defScope s__law_numbers) (by decide +kernel)) (Ep.lp (ep_var 0)) (fun _ _ _ _ _ => (pg_name (i := 2) sc__law_numbers.nd rfl (by first | exact Or.inl rfl | exact Or.inr rfl))) (tg_name 2) (by intro j hj; simpa using hj) (fun _ _ _ _ _ => pts_nil) tts_nil (fun x1 _ _ _ _ _ => (ep_has h__law_whole hr (by decide) (ag_cons (ep_var 2) ag_nil) c1)) (by intro _; rfl)))))))
noncomputable def mb__law_edge (v_l_points_here : (List (Int × Int))) (v_l_a : Int) (v_l_b : Int) : Option (Out Bool Unit) := (Option.bind (some v_l_points_here) fun xs3 => thenO (loopL (fun (x2 : (Int × Int)) (g1 : Unit) => (Option.bind (bind3 (oidx (some v_l_points_here) (some v_l_a)) (oidx (some v_l_points_here) (some v_l_b)) (some x2) m__law_area) fun (v_l_side : Int) => (Option.bind (omul (osub (ofst (oidx (some v_l_points_here) (some v_l_a))) (ofst (some x2))) (osub (ofst (oidx (some v_l_points_here) (some v_l_b))) (ofst (some x2)))) fun (v_l_x : Int) => (Option.bind (omul (osub (osnd (oidx (some v_l_points_here) (some v_l_a))) (osnd (some x2))) (osub (osnd (oidx (some v_l_points_here) (some v_l_b))) (osnd (some x2)))) fun (v_l_y : Int) => (oite (oor (olt (some v_l_side) (some (0 : Int))) (oand (oeq (some v_l_side) (some (0 : Int))) (olt (oadd (some v_l_x) (some v_l_y)) (some (0 : Int))))) (noGo (oret (some false))) (some (.go () : Out Bool Unit))))))) xs3 ()) fun (g1 : Unit) => (oret (one_ (some v_l_a) (some v_l_b))))
noncomputable def m__law_edge (v_l_points_here : (List (Int × Int))) (v_l_a : Int) (v_l_b : Int) : Option Bool := retv (mb__law_edge v_l_points_here v_l_a v_l_b)
theorem sc__law_edge : FnScope ["_law_points_here", "_law_a", "_law_b", "_law_point_here", "_law_side", "_law_x", "_law_y"] ["_law_points_here", "_law_a", "_law_b"] (defScope s__law_edge) := ⟨rfl, rfl, rfl, by decide +kernel, rfl, by decide +kernel, by decide +kernel⟩
theorem ok__law_edge (B : Fr mg) (h__law_area : Has P w K mg base 1 "_law_area" ["_law_a", "_law_b", "_law_c"] (spOf K false (C3 m__law_area))) (F : FunD K "_law_edge" "_law_edge" (defArgs s__law_edge) (defBody s__law_edge) (defScope s__law_edge) [] [] fa fd) : FnOk P w K mg base CX0 2 fa fd ["_law_points_here", "_law_a", "_law_b"] (spOf K false (C3 m__law_edge)) :=
  fn_ok3 (m := mb__law_edge) (post := fun _ => []) F sc__law_edge (by decide) rfl fun cdv A outer s H E hr v_l_points_here v_l_a v_l_b => (bs_for (fun (g1 : Unit) => [.imm (α := (List (Int × Int))) v_l_points_here, .imm (α := Int) v_l_a, .imm (α := Int) v_l_b, .any, .any, .any, .any]) () (pg_name (i := 3) sc__law_edge.nd rfl (by first | exact Or.inl rfl | exact Or.inr rfl)) (tg_name 3) (ep_var 0) (Wk.same (Wk.same (Wk.same (Wk.same (Wk.same (Wk.same (Wk.same Wk.nil))))))) (fun x2 g1 => (bs_asg 4 sc__law_edge.nd (ep_has h__law_area hr (by decide) (ag_cons (ep_idx (Ep.lp (ep_var 0)) (ep_var 1)) (ag_cons (ep_idx (Ep.lp (ep_var 0)) (ep_var 2)) (ag_cons (ep_var 3) ag_nil))) c3) fun v_l_side => (bs_asg 5 sc__law_edge.nd (ep_mul (ep_sub (ep_fst (ep_idx (Ep.lp (ep_var 0)) (ep_var 1))) (ep_fst (ep_var 3))) (ep_sub (ep_fst (ep_idx (Ep.lp (ep_var 0)) (ep_var 2))) (ep_fst (ep_var 3)))) fun v_l_x => (bs_asg 6 sc__law_edge.nd (ep_mul (ep_sub (ep_snd (ep_idx (Ep.lp (ep_var 0)) (ep_var 1))) (ep_snd (ep_var 3))) (ep_sub (ep_snd (ep_idx (Ep.lp (ep_var 0)) (ep_var 2))) (ep_snd (ep_var 3)))) fun v_l_y => (bs_ifR (tp_w (wp_or (Cq.t (cq_lt (ep_var 4) ep_int) _) (wp_or1 (tp_w (wp_and (Cq.t (cq_eqS (ep_var 4) ep_int) _) (wp_and1 (Cq.t (cq_lt (ep_add (ep_var 5) (ep_var 6)) ep_int) _))))))) (bs_ret ep_bl) (bs_go (Wk.same (Wk.same (Wk.same (Wk.any (Wk.any (Wk.any (Wk.any Wk.nil))))))))))))) (fun g1 => (bs_ret (Cq.e (cq_neS (ep_var 1) (ep_var 2)) _))) .never rfl)
noncomputable def mb__law_in_row (v_l_points_here : (List (Int × Int))) : Option (Out Bool Unit) := (Option.bind (ocut (some v_l_points_here) (osome (some (2 : Int))) (some none)) fun xs3 => thenO (loopL (fun (x2 : (Int × Int)) (g1 : Unit) => (oite (one_ (bind3 (oidx (some v_l_points_here) (some (0 : Int))) (oidx (some v_l_points_here) (some (1 : Int))) (some x2) m__law_area) (some (0 : Int))) (noGo (oret (some false))) (some (.go () : Out Bool Unit)))) xs3 ()) fun (g1 : Unit) => (oret (some true)))
noncomputable def m__law_in_row (v_l_points_here : (List (Int × Int))) : Option Bool := retv (mb__law_in_row v_l_points_here)
theorem sc__law_in_row : FnScope ["_law_points_here", "_law_point_here"] ["_law_points_here"] (defScope s__law_in_row) := ⟨rfl, rfl, rfl, by decide +kernel, rfl, by decide +kernel, by decide +kernel⟩
theorem ok__law_in_row (B : Fr mg) (h__law_area : Has P w K mg base 1 "_law_area" ["_law_a", "_law_b", "_law_c"] (spOf K false (C3 m__law_area))) (F : FunD K "_law_in_row" "_law_in_row" (defArgs s__law_in_row) (defBody s__law_in_row) (defScope s__law_in_row) [] [] fa fd) : FnOk P w K mg base CX0 2 fa fd ["_law_points_here"] (spOf K false (C1 m__law_in_row)) :=
  fn_ok1 (m := mb__law_in_row) (post := fun _ => []) F sc__law_in_row (by decide) rfl fun cdv A outer s H E hr v_l_points_here => (bs_for (fun (g1 : Unit) => [.imm (α := (List (Int × Int))) v_l_points_here, .any]) () (pg_name (i := 1) sc__law_in_row.nd rfl (by first | exact Or.inl rfl | exact Or.inr rfl)) (tg_name 1) (EpF.ep (ep_cut (Ep.lp (ep_var 0)) (pp_some ep_int) pp_none)) (Wk.same (Wk.same Wk.nil)) (fun x2 g1 => (bs_ifR (Cq.t (cq_neS (ep_has h__law_area hr (by decide) (ag_cons (ep_idx (Ep.lp (ep_var 0)) ep_int) (ag_cons (ep_idx (Ep.lp (ep_var 0)) ep_int) (ag_cons (ep_var 1) ag_nil))) c3) ep_int) _) (bs_ret ep_bl) (bs_go (Wk.same (Wk.any Wk.nil))))) (fun g1 => (bs_ret ep_bl)) .never rfl)
noncomputable def mb__law_inside (v_l_points_here : (List (Int × Int))) (v_l_a : Int) (v_l_b : Int) (v_l_number : Int) : Option (Out Bool Unit) := (oret (ogt (bind3 (oidx (some v_l_points_here) (some v_l_a)) (oidx (some v_l_points_here) (some v_l_b)) (oidx (some v_l_points_here) (some v_l_number)) m__law_area) (some (0 : Int))))
noncomputable def m__law_inside (v_l_points_here : (List (Int × Int))) (v_l_a : Int) (v_l_b : Int) (v_l_number : Int) : Option Bool := retv (mb__law_inside v_l_points_here v_l_a v_l_b v_l_number)
theorem sc__law_inside : FnScope ["_law_points_here", "_law_a", "_law_b", "_law_number"] ["_law_points_here", "_law_a", "_law_b", "_law_number"] (defScope s__law_inside) := ⟨rfl, rfl, rfl, by decide +kernel, rfl, by decide +kernel, by decide +kernel⟩
theorem ok__law_inside (B : Fr mg) (h__law_area : Has P w K mg base 1 "_law_area" ["_law_a", "_law_b", "_law_c"] (spOf K false (C3 m__law_area))) (F : FunD K "_law_inside" "_law_inside" (defArgs s__law_inside) (defBody s__law_inside) (defScope s__law_inside) [] [] fa fd) : FnOk P w K mg base CX0 2 fa fd ["_law_points_here", "_law_a", "_law_b", "_law_number"] (spOf K false (C4 m__law_inside)) :=
  fn_ok4 (m := mb__law_inside) (post := fun _ => []) F sc__law_inside (by decide) rfl fun cdv A outer s H E hr v_l_points_here v_l_a v_l_b v_l_number => (bs_ret (Cq.e (cq_gt (ep_has h__law_area hr (by decide) (ag_cons (ep_idx (Ep.lp (ep_var 0)) (ep_var 1)) (ag_cons (ep_idx (Ep.lp (ep_var 0)) (ep_var 2)) (ag_cons (ep_idx (Ep.lp (ep_var 0)) (ep_var 3)) ag_nil))) c3) ep_int) _))
noncomputable def mb_law (v_l_script : Script) : Option (Out Bool Unit) := (Option.bind (bind2 (some v_l_script) (some (12 : Int)) m__law_points) fun (v_l_points_here : (List (Int × Int))) => (thenO (oite (oeq (omod (bind2 (some v_l_script) (some (20 : Int)) m__law_cell_at) (some (9 : Int))) (some (4 : Int))) (Option.bind (bind2 (some v_l_script) (some (20 : Int)) m__law_points) fun (v_l_points_here : (List (Int × Int))) => (some (.go (v_l_points_here) : Out Bool ((List (Int × Int)))))) (some (.go (v_l_points_here) : Out Bool ((List (Int × Int)))))) fun (g1 : ((List (Int × Int)))) => (Option.bind (some g1) fun (v_l_handed : (List (Int × Int))) => (Option.bind (Option.bind (some v_l_handed) m_hull) fun (v_l_found : (List Int)) => (oite (oor (onot (oisi (some v_l_found) true)) (one_ (some v_l_handed) (some g1))) (noGo (oret (some false))) (oite (onot (oall (Option.bind (some v_l_found) fun xs3 => if capOk xs3.length then lcM oYes (fun (x2 : Int) => (Option.bind (some x2) m__law_whole)) xs3 else none))) (noGo (oret (some false))) (oite (Option.bind (some g1) m__law_in_row) (noGo (Option.bind (Option.bind (osort (some g1)) fun xs5 => if capOk xs5.length then lcM oYes (fun (x4 : (Int × Int)) => (oindx (some g1) (some x4))) xs5 else none) fun (v_l_due : (List Int)) => (oret (bind2 (some v_l_found) (some v_l_due) m__law_numbers)))) (oite (oor (olt (olen (some v_l_found)) (some (3 : Int))) (one_ (osetl (some v_l_found)) (olen (some v_l_found)))) (noGo (oret (some false))) (oite (oor (olt (ominL (some v_l_found)) (some (0 : Int))) (oge (omaxL (some v_l_found)) (olen (some g1)))) (noGo (oret (some false))) (oite (one_ (oidx (some g1) (oidx (some v_l_found) (some (0 : Int)))) (ominL (some g1))) (noGo (oret (some false))) (Option.bind (orng (olen (some v_l_found))) fun xs11 => thenO (loopL (fun (x7 : Int) (g6 : Unit) => (oite (onot (bind3 (some g1) (oidx (some v_l_found) (osub (some x7) (some (1 : Int)))) (oidx (some v_l_found) (some x7)) m__law_edge)) (noGo (oret (some false))) (Option.bind (orng (olen (some g1))) fun xs10 => thenO (loopL (fun (x9 : Int) (g8 : Unit) => (oite (oin (some x9) (some v_l_found)) (noGo (some (.cnt () : Out Bool Unit))) (oite (onot (bind4 (some g1) (oidx (some v_l_found) (osub (some x7) (some (1 : Int)))) (oidx (some v_l_found) (some x7)) (some x9) m__law_inside)) (noGo (oret (some false))) (some (.go () : Out Bool Unit))))) xs10 ()) fun (g8 : Unit) => (some (.go () : Out Bool Unit))))) xs11 ()) fun (g6 : Unit) => (oret (ogt (olen (Option.bind (some v_l_handed) m_hull)) (some (2 : Int)))))))))))))))
noncomputable def m_law (v_l_script : Script) : Option Bool := retv (mb_law v_l_script)
theorem sc_law : FnScope ["_law_script", "_law_points_here", "_law_handed", "_law_found", "_law_due", "_law_k", "_law_number", "_law_point_here", "_law_one"] ["_law_script"] (defScope s_law) := ⟨rfl, rfl, rfl, by decide +kernel, rfl, by decide +kernel, by decide +kernel⟩
theorem ok_law (B : Fr mg) (h__law_points : Has P w K mg base 2 "_law_points" ["_law_script", "_law_most"] (spOf K true (C2 m__law_points))) (h__law_cell_at : Has P w K mg base 1 "_law_cell_at" ["_law_script", "_law_k"] (spOf K false (C2 m__law_cell_at))) (h_hull : Has P w K mg base 5 "hull" ["points"] (spOf K true (C1 m_hull))) (h__law_whole : Has P w K mg base 1 "_law_whole" ["_law_found"] (spOf K false (C1 m__law_whole))) (h__law_in_row : Has P w K mg base 2 "_law_in_row" ["_law_points_here"] (spOf K false (C1 m__law_in_row))) (h__law_numbers : Has P w K mg base 2 "_law_numbers" ["_law_found", "_law_due"] (spOf K false (C2 m__law_numbers))) (h__law_edge : Has P w K mg base 2 "_law_edge" ["_law_points_here", "_law_a", "_law_b"] (spOf K false (C3 m__law_edge))) (h__law_inside : Has P w K mg base 2 "_law_inside" ["_law_points_here", "_law_a", "_law_b", "_law_number"] (spOf K false (C4 m__law_inside))) (F : FunD K "law" "law" (defArgs s_law) (defBody s_law) (defScope s_law) [] [] fa fd) : FnOk P w K mg base CX0 6 fa fd ["_law_script"] (spOf K false (C1 m_law)) :=
  fn_ok1 (m := mb_law) (post := fun _ => []) F sc_law (by decide) rfl fun cdv A outer s H E hr v_l_script => (bs_asg 1 sc_law.nd (EpF.ep (ep_hasF h__law_points hr (by decide) (ag_cons (ep_var 0) (ag_cons ep_int ag_nil)) c2)) fun v_l_points_here => (bs_ifG (post1 := (fun (g1 : ((List (Int × Int)))) => [.imm (α := Script) v_l_script, .imm (α := (List (Int × Int))) g1, .any, .any, .any, .any, .any, .any, .any])) (Cq.t (cq_eqS (ep_mod (ep_has h__law_cell_at hr (by decide) (ag_cons (ep_var 0) (ag_cons ep_int ag_nil)) c2) ep_int) ep_int) _) (bs_asg 1 sc_law.nd (EpF.ep (ep_hasF h__law_points hr (by decide) (ag_cons (ep_var 0) (ag_cons ep_int ag_nil)) c2)) fun v_l_points_here => (bs_go (Wk.same (Wk.same (Wk.same (Wk.same (Wk.same (Wk.same (Wk.same (Wk.same (Wk.same Wk.nil))))))))))) (bs_go (Wk.same (Wk.same (Wk.same (Wk.same (Wk.same (Wk.same (Wk.same (Wk.same (Wk.same Wk.nil)))))))))) fun g1 => (bs_asg 2 sc_law.nd (EpF.ep (ep_list (by rfl) B.b_list (Ep.lp (ep_var 1)))) fun v_l_handed => (bs_asgM 3 sc_law.nd (ep_hasF h_hull hr (by decide) (ag_cons (ep_var 2) ag_nil) c1) fun v_l_found => (bs_ifR (tp_w (wp_or (tp_not (tp_val (ep_isiL (t := "list") true B.b_isinstance B.b_list (by decide +kernel) (by decide +kernel) (lp_var 3)))) (wp_or1 (Cq.t (cq_neD hr.units (ep_var 2) (ep_var 1)) _)))) (bs_ret ep_bl) (bs_ifR (tp_not (tp_val (ep_all rfl (by rfl) B.b_all (EpF.lp (LcOk.ep rfl sc_law.nd (lc_C [("_law_one", 8)] (blkOk_by (N := ["_law_script", "_law_points_here", "_law_handed", "_law_found", "_law_due", "_law_k", "_law_number", "_law_point_here", "_law_one"]) (sc := defScope s_law) (by decide +kernel)) (lp_var 3) (fun _ _ _ _ _ => (pg_name (i := 8) sc_law.nd rfl (by first | exact Or.inl rfl | exact Or.inr rfl))) (tg_name 8) (by intro j hj; simpa using hj) (fun _ _ _ _ _ => pts_nil) tts_nil (fun x2 _ _ _ _ _ => (ep_has h__law_whole hr (by decide) (ag_cons (ep_var 8) ag_nil) c1)) (by intro _; rfl))))))) (bs_ret ep_bl) (bs_ifR (tp_val (ep_has h__law_in_row hr (by decide) (ag_cons (ep_var 1) ag_nil) c1)) (bs_asgLc 4 rfl sc_law.nd (lc_C [("_law_point_here", 7)] (blkOk_by (N := ["_law_script", "_law_points_here", "_law_handed", "_law_found", "_law_due", "_law_k", "_law_number", "_law_point_here", "_law_one"]) (sc := defScope s_law) (by decide +kernel)) (EpF.lp (ep_sorted hr.units (by rfl) B.b_sorted (Ep.lp (ep_var 1)))) (fun _ _ _ _ _ => (pg_name (i := 7) sc_law.nd rfl (by first | exact Or.inl rfl | exact Or.inr rfl))) (tg_name 7) (by intro j hj; simpa using hj) (fun _ _ _ _ _ => pts_nil) tts_nil (fun x4 _ _ _ _ _ => (ep_index hr.units65 (Ep.lp (ep_var 1)) (ep_var 7))) (by intro _; rfl)) fun v_l_due => (bs_freeze (xs := ML.mk (α := Int) v_l_found) 3 (bs_ret (ep_has h__law_numbers hr (by decide) (ag_cons (ep_var 3) (ag_cons (ep_var 4) ag_nil)) c2)))) (bs_ifR (tp_w (wp_or (Cq.t (cq_lt (ep_len (by rfl) B.b_len (lp_var 3)) ep_int) _) (wp_or1 (Cq.t (cq_neS (ep_lenset rfl (by rfl) B.b_len (by rfl) B.b_set (lp_var 3)) (ep_len (by rfl) B.b_len (lp_var 3))) _)))) (bs_ret ep_bl) (bs_ifR (tp_w (wp_or (Cq.t (cq_lt (ep_minL rfl hr.units (by rfl) B.b_min (lp_var 3)) ep_int) _) (wp_or1 (Cq.t (cq_ge (ep_maxL rfl hr.units (by rfl) B.b_max (lp_var 3)) (ep_len (by rfl) B.b_len (Ep.lp (ep_var 1)))) _)))) (bs_ret ep_bl) (bs_ifR (Cq.t (cq_neD hr.units (ep_idx (Ep.lp (ep_var 1)) (ep_idx (lp_var 3) ep_int)) (ep_minL rfl hr.units (by rfl) B.b_min (Ep.lp (ep_var 1)))) _) (bs_ret ep_bl) (bs_forR (fun (g6 : Unit) => [.imm (α := Script) v_l_script, .imm (α := (List (Int × Int))) g1, .imm (α := (List (Int × Int))) v_l_handed, .mut (ML.mk (α := Int) v_l_found), .any, .any, .any, .any, .any]) () (by rfl) B.b_range (pg_name (i := 5) sc_law.nd rfl (by first | exact Or.inl rfl | exact Or.inr rfl)) (tg_name 5) (ep_len (by rfl) B.b_len (lp_var 3)) (Wk.same (Wk.same (Wk.same (Wk.same (Wk.same (Wk.same (Wk.same (Wk.same (Wk.same Wk.nil))))))))) (fun x7 g6 => (bs_ifR (tp_not (tp_val (ep_has h__law_edge hr (by decide) (ag_cons (ep_var 1) (ag_cons (ep_idx (lp_var 3) (ep_sub (ep_var 5) ep_int)) (ag_cons (ep_idx (lp_var 3) (ep_var 5)) ag_nil))) c3))) (bs_ret ep_bl) (bs_forR (fun (g8 : Unit) => [.imm (α := Script) v_l_script, .imm (α := (List (Int × Int))) g1, .imm (α := (List (Int × Int))) v_l_handed, .mut (ML.mk (α := Int) v_l_found), .any, .imm (α := Int) x7, .any, .any, .any]) () (by rfl) B.b_range (pg_name (i := 6) sc_law.nd rfl (by first | exact Or.inl rfl | exact Or.inr rfl)) (tg_name 6) (ep_len (by rfl) B.b_len (Ep.lp (ep_var 1))) (Wk.same (Wk.same (Wk.same (Wk.same (Wk.same (Wk.same (Wk.same (Wk.same (Wk.same Wk.nil))))))))) (fun x9 g8 => (bs_ifR (Cq.t (cq_in hr.units65 (ep_var 6) (lp_var 3)) _) (bs_cnt (Wk.same (Wk.same (Wk.same (Wk.same (Wk.same (Wk.same (Wk.any (Wk.same (Wk.same Wk.nil)))))))))) (bs_ifR (tp_not (tp_val (ep_has h__law_inside hr (by decide) (ag_cons (ep_var 1) (ag_cons (ep_idx (lp_var 3) (ep_sub (ep_var 5) ep_int)) (ag_cons (ep_idx (lp_var 3) (ep_var 5)) (ag_cons (ep_var 6) ag_nil)))) c4))) (bs_ret ep_bl) (bs_go (Wk.same (Wk.same (Wk.same (Wk.same (Wk.same (Wk.same (Wk.any (Wk.same (Wk.same Wk.nil))))))))))))) (fun g8 => (bs_go (Wk.same (Wk.same (Wk.same (Wk.same (Wk.same (Wk.any (Wk.same (Wk.same (Wk.same Wk.nil))))))))))) .never rfl))) (fun g6 => (bs_clear (xs := ML.mk (α := Int) v_l_found) 3 (bs_ret (Cq.e (cq_gt (ep_len (by rfl) B.b_len (EpF.lp (ep_hasF h_hull hr (by decide) (ag_cons (ep_var 2) ag_nil) c1))) ep_int) _)))) .never rfl)))))))))))
end G_k04
namespace G_k04
open PySem PySem.Spec PyProof.Rows L2 T
def d_twice_area : He.DefD := ⟨("twice_area", none), "twice_area", "twice_area", defArgs s_twice_area, defBody s_twice_area, defScope s_twice_area, [], []⟩
def d_sign : He.DefD := ⟨("sign", none), "sign", "sign", defArgs s_sign, defBody s_sign, defScope s_sign, [], []⟩
def d_turn : He.DefD := ⟨("turn", none), "turn", "turn", defArgs s_turn, defBody s_turn, defScope s_turn, [], []⟩
def d_in_order : He.DefD := ⟨("in_order", none), "in_order", "in_order", defArgs s_in_order, defBody s_in_order, defScope s_in_order, [], []⟩
def d_first_off : He.DefD := ⟨("first_off", none), "first_off", "first_off", defArgs s_first_off, defBody s_first_off, defScope s_first_off, [], []⟩
def d_swept : He.DefD := ⟨("swept", none), "swept", "swept", defArgs s_swept, defBody s_swept, defScope s_swept, [], []⟩
def d_joined : He.DefD := ⟨("joined", none), "joined", "joined", defArgs s_joined, defBody s_joined, defScope s_joined, [], []⟩
def d_hull : He.DefD := ⟨("hull", none), "hull", "hull", defArgs s_hull, defBody s_hull, defScope s_hull, [], []⟩
def d__law_cell_at : He.DefD := ⟨("_law_cell_at", none), "_law_cell_at", "_law_cell_at", defArgs s__law_cell_at, defBody s__law_cell_at, defScope s__law_cell_at, [], []⟩
def d__law_mixed : He.DefD := ⟨("_law_mixed", none), "_law_mixed", "_law_mixed", defArgs s__law_mixed, defBody s__law_mixed, defScope s__law_mixed, [], []⟩
def d__law_point : He.DefD := ⟨("_law_point", none), "_law_point", "_law_point", defArgs s__law_point, defBody s__law_point, defScope s__law_point, [], []⟩
def d__law_grown : He.DefD := ⟨("_law_grown", none), "_law_grown", "_law_grown", defArgs s__law_grown, defBody s__law_grown, defScope s__law_grown, [], []⟩
def d__law_points : He.DefD := ⟨("_law_points", none), "_law_points", "_law_points", defArgs s__law_points, defBody s__law_points, defScope s__law_points, [], []⟩
def d__law_area : He.DefD := ⟨("_law_area", none), "_law_area", "_law_area", defArgs s__law_area, defBody s__law_area, defScope s__law_area, [], []⟩
def d__law_whole : He.DefD := ⟨("_law_whole", none), "_law_whole", "_law_whole", defArgs s__law_whole, defBody s__law_whole, defScope s__law_whole, [], []⟩
def d__law_numbers : He.DefD := ⟨("_law_numbers", none), "_law_numbers", "_law_numbers", defArgs s__law_numbers, defBody s__law_numbers, defScope s__law_numbers, [], []⟩
def d__law_edge : He.DefD := ⟨("_law_edge", none), "_law_edge", "_law_edge", defArgs s__law_edge, defBody s__law_edge, defScope s__law_edge, [], []⟩
def d__law_in_row : He.DefD := ⟨("_law_in_row", none), "_law_in_row", "_law_in_row", defArgs s__law_in_row, defBody s__law_in_row, defScope s__law_in_row, [], []⟩
def d__law_inside : He.DefD := ⟨("_law_inside", none), "_law_inside", "_law_inside", defArgs s__law_inside, defBody s__law_inside, defScope s__law_inside, [], []⟩
def d_law : He.DefD := ⟨("law", none), "law", "law", defArgs s_law, defBody s_law, defScope s_law, [], []⟩
def fn_0 : List He.DefD := [d_twice_area, d_sign, d_turn, d_in_order, d_first_off, d_swept, d_joined, d_hull, d__law_cell_at, d__law_mixed, d__law_point, d__law_grown, d__law_points, d__law_area, d__law_whole, d__law_numbers, d__law_edge, d__law_in_row, d__law_inside, d_law]
def fn : List He.DefD := fn_0
def fa_0 : List He.Fa := [.glo "twice_area", .glo "sign", .glo "turn", .glo "in_order", .glo "first_off", .glo "swept", .glo "joined", .glo "hull", .glo "_law_cell_at", .glo "_law_mixed", .glo "_law_point", .glo "_law_grown", .glo "_law_points", .glo "_law_area", .glo "_law_whole", .glo "_law_numbers", .glo "_law_edge", .glo "_law_in_row", .glo "_law_inside", .glo "law", .free "int", .free "sorted", .free "list", .free "range", .free "len", .free "reversed", .free "isinstance", .free "bool", .free "all", .free "set"]
def fa_1 : List He.Fa := [.free "min", .free "max"]
def fa : List He.Fa := fa_0 ++ fa_1
def xb (K : PySem.W.Frag) : Bool := true
abbrev R : PySem.W.OpenRow := PySem.W.OpenLaw.row PySem.Challenge.rw_nearfields_k04_hulls
def tf : List He.Defn := [("in_order", none)]
abbrev hk : PySem.W.Hook := He.hookX 4 fa fn [] tf xb
def ob (s : PySem.W.SharedT) : He.AlX := He.obsX 4 fa fn [] tf xb (HandSHeadRun.getT s)
theorem ob_eq (s : PySem.W.SharedT) : ob s = hk.obs s.abs := He.obsX_eq (HandSHeadRun.getT_eq s)
def lo_0 : List Str := ["twice_area", "sign", "turn", "in_order", "first_off", "swept", "joined", "hull", "_law_cell_at", "_law_mixed", "_law_point", "_law_grown", "_law_points", "_law_area", "_law_whole", "_law_numbers", "_law_edge", "_law_in_row", "_law_inside"]
abbrev lo : List Str := lo_0
theorem run (w : World) : HandSHeadRun.RunEq R (PySem.W.view R.prog [22]) hk ob 9000 lo w := by
  intro os
  kernel_rfl
end G_k04
namespace G_k04
open PySem PySem.Spec PyProof.Rows L2 T
local instance tbM : Tb := ⟨[]⟩
theorem tw {a b c : Pt} (ha : pb a) (hb : pb b) (hc : pb c) : m_twice_area a b c = some (area a b c) := by
  unfold m_twice_area mb_twice_area
  simp only [ofst_s, osnd_s, osub_s, omul_b (bd_sub' hb.1 ha.1) (bd_sub' hc.2 ha.2), omul_b (bd_sub' hb.2 ha.2) (bd_sub' hc.1 ha.1), oret_s, retv_ret]
  rfl
theorem sg (x : Int) : m_sign x = some (sgn x) := rfl
theorem tn {a b c : Pt} (ha : pb a) (hb : pb b) (hc : pb c) : m_turn a b c = some (sgn (area a b c)) := by
  unfold m_turn mb_turn
  simp only [bind3_s, tw ha hb hc, bind_s, sg, oret_s, retv_ret]
theorem mxd (c k : Int) : ∃ v, m__law_mixed c k = some v ∧ 0 ≤ v := by
  refine ⟨((c + 61 * k + 7) * 1000009000027000027) % 1000000000000000000000007, ?_, Int.emod_nonneg _ (by decide)⟩
  unfold m__law_mixed mb__law_mixed
  rw [omul_L k (by decide) (by decide), show opow (some (1000003 : Int)) (some (3 : Int)) = some 1000009000027000027 from rfl, show opow (some (10 : Int)) (some (24 : Int)) = some 1000000000000000000000000 from rfl]
  simp only [oadd_s]
  rw [omul_R _ (by decide) (by decide), omod_s _ (by decide), oret_s, retv_ret]
  rfl
theorem cel {s : Script} {k : Int} (h : 0 ≤ k) : ∃ v, m__law_cell_at s k = some v := by
  unfold m__law_cell_at mb__law_cell_at
  rw [oslen_s, olt_s, oite_s]
  by_cases e : k < s.ns.length
  · rw [if_pos (decide_eq_true e)]
    have e2 : k.toNat < s.ns.length := by omega
    refine ⟨s.ns[k.toNat], ?_⟩
    show retv (noGo (oret (L2.atI s.ns k))) = _
    rw [atI_pos h, List.getElem?_eq_getElem e2, oret_s, noGo_ret, retv_ret]
  · rw [if_neg (by rw [decide_eq_true_eq]; exact e)]
    exact ⟨0, rfl⟩
theorem pnt {k n : Int} (hn : 0 ≤ n) : ∃ p, m__law_point k n = some p ∧ (k ≠ 2 → box 17 p) ∧ box 1000000 p := by
  unfold m__law_point mb__law_point
  have d (b : Int) (h0 : 0 < b) (h : b < 18446744073709551616) : ofdiv (some n) (some b) = some (n / b) := ofdiv_q n h0 h
  simp only [oeq_s, oite_s, decide_eq_true_eq]
  by_cases k0 : k = 0
  · refine ⟨(n % 3, n / 3 % 3), ?_, fun _ => ⟨by dsimp; omega, by dsimp; omega, by dsimp; omega, by dsimp; omega⟩, ⟨by dsimp; omega, by dsimp; omega, by dsimp; omega, by dsimp; omega⟩⟩
    rw [if_pos k0, omod_s _ (by decide), d 3 (by decide) (by decide), omod_s _ (by decide)]
    rfl
  rw [if_neg k0]
  by_cases k1 : k = 1
  · refine ⟨(n % 5 - 1, n / 5 % 5), ?_, fun _ => ⟨by dsimp; omega, by dsimp; omega, by dsimp; omega, by dsimp; omega⟩, ⟨by dsimp; omega, by dsimp; omega, by dsimp; omega, by dsimp; omega⟩⟩
    rw [if_pos k1, omod_s _ (by decide), d 5 (by decide) (by decide), omod_s _ (by decide)]
    rfl
  rw [if_neg k1]
  by_cases k2 : k = 2
  · refine ⟨(n % 2000001 - 1000000, n / 2000001 % 2000001 - 1000000), ?_, fun c => absurd k2 c, ⟨by dsimp; omega, by dsimp; omega, by dsimp; omega, by dsimp; omega⟩⟩
    rw [if_pos k2, omod_s _ (by decide), d 2000001 (by decide) (by decide), omod_s _ (by decide)]
    rfl
  rw [if_neg k2]
  by_cases k3 : k = 3
  · rw [if_pos k3, omod_s _ (by decide), d 9 (by decide) (by decide), omod_s _ (by decide), oeq_s, ob2i_s, bind_s, osub_s, omul_L _ (by decide) (by decide), oadd_s]
    by_cases e : n / 9 % 5 = 1
    · exact ⟨(n % 9 - 4, 2 * (n % 9) + 1), by rw [if_pos (decide_eq_true e)]; rfl, fun _ => ⟨by dsimp; omega, by dsimp; omega, by dsimp; omega, by dsimp; omega⟩, ⟨by dsimp; omega, by dsimp; omega, by dsimp; omega, by dsimp; omega⟩⟩
    · exact ⟨(n % 9 - 4, 2 * (n % 9) + 0), by rw [if_neg (by rw [decide_eq_true_eq]; exact e)]; rfl, fun _ => ⟨by dsimp; omega, by dsimp; omega, by dsimp; omega, by dsimp; omega⟩, ⟨by dsimp; omega, by dsimp; omega, by dsimp; omega, by dsimp; omega⟩⟩
  rw [if_neg k3, omod_s (b := 12) _ (by decide), d 12 (by decide) (by decide), omod_s (b := 6) _ (by decide), omod_s (b := 9) _ (by decide), ogt_s, oand_ss]
  by_cases k4 : (decide (k = 4) && decide (0 < n / 12 % 6)) = true
  · rw [oite_s, if_pos k4]
    have m : (n % 12).toNat < ([(5, 0), (4, 3), (3, 4), (0, 5), (-3, 4), (-4, 3), (-5, 0), (-4, -3), (-3, -4), (0, -5), (3, -4), (4, -3)] : List Pt).length := by show (n % 12).toNat < 12; omega
    have A : ∀ p ∈ ([(5, 0), (4, 3), (3, 4), (0, 5), (-3, 4), (-4, 3), (-5, 0), (-4, -3), (-3, -4), (0, -5), (3, -4), (4, -3)] : List Pt), box 17 p := by decide
    refine ⟨_, ?_, fun _ => A _ (List.getElem_mem m), box_mono (A _ (List.getElem_mem m)) (by decide)⟩
    show retv (noGo (oret (L2.atI [(5, 0), (4, 3), (3, 4), (0, 5), (-3, 4), (-4, 3), (-5, 0), (-4, -3), (-3, -4), (0, -5), (3, -4), (4, -3)] (n % 12)))) = _
    rw [atI_pos (by omega), List.getElem?_eq_getElem m]
    rfl
  · rw [oite_s, if_neg k4]
    exact ⟨(n % 12 - 6, n / 12 % 9 - 4), rfl, fun _ => ⟨by dsimp; omega, by dsimp; omega, by dsimp; omega, by dsimp; omega⟩, ⟨by dsimp; omega, by dsimp; omega, by dsimp; omega, by dsimp; omega⟩⟩
theorem grw {p : Pt} {k b n : Int} (h1 : k ≠ 2 → box 17 p) (h2 : box 1000000 p) : ∃ q, m__law_grown p k b n = some q ∧ box 1000000 q := by
  unfold m__law_grown mb__law_grown
  rw [bind_s, oeq_s, omod_s _ (by decide), olt_s, oor_ss, oite_s]
  by_cases c : (decide (k = 2) || decide (b % 4 < 2)) = true
  · rw [if_pos c]
    exact ⟨p, rfl, h2⟩
  · rw [if_neg c]
    have c1 : k ≠ 2 := fun e => c (by rw [decide_eq_true e]; rfl)
    have c2 : ¬ b % 4 < 2 := fun e => c (by rw [decide_eq_true e, Bool.or_true])
    obtain ⟨x, y⟩ := p
    obtain ⟨g1, g2, g3, g4⟩ := h1 c1
    dsimp at g1 g2 g3 g4
    have c3 : b % 4 - 2 = 0 ∨ b % 4 - 2 = 1 := by omega
    have u : ∀ t : Int, t = 1000 ∨ t = 50000 → ∃ q, retv (Option.bind (some t) fun v_l_times => (Option.bind (osub (omod (ofdiv (some b) (some (4 : Int))) (some (90001 : Int))) (some (45000 : Int))) fun (v_l_away : Int) => (Option.bind (ob2i (oeq (omod (ofdiv (some n) (opow (some (10 : Int)) (some (9 : Int)))) (some (9 : Int))) (some (1 : Int)))) fun (v_l_off : Int) => (oret (omk2 (oadd (oadd (omul (some x) (some v_l_times)) (some v_l_away)) (some v_l_off)) (osub (omul (some y) (some v_l_times)) (some v_l_away))) : Option (Out Pt Unit))))) = some q ∧ box 1000000 q := fun t ht => by
      rw [show opow (some (10 : Int)) (some (9 : Int)) = some 1000000000 from rfl, ofdiv_q b (by decide) (by decide), ofdiv_q n (by decide) (by decide), omod_s _ (by decide), omod_s _ (by decide), oeq_s, ob2i_s, osub_s, bind_s, bind_s, bind_s, omul_R _ (by omega) (by omega), omul_R _ (by omega) (by omega), oadd_s, oadd_s, osub_s, omk2_s, oret_s, retv_ret]
      refine ⟨_, rfl, ?_⟩
      have e : (0 : Int) ≤ (if decide (n / 1000000000 % 9 = 1) = true then 1 else 0) ∧ (if decide (n / 1000000000 % 9 = 1) = true then (1 : Int) else 0) ≤ 1 := by
        by_cases e : n / 1000000000 % 9 = 1
        · rw [if_pos (decide_eq_true e)]; decide
        · rw [if_neg (by rw [decide_eq_true_eq]; exact e)]; decide
      rcases ht with rfl | rfl
      · exact ⟨by dsimp; omega, by dsimp; omega, by dsimp; omega, by dsimp; omega⟩
      · exact ⟨by dsimp; omega, by dsimp; omega, by dsimp; omega, by dsimp; omega⟩
    rw [osub_s]
    rcases c3 with c3 | c3
    · rw [c3]
      exact u 1000 (.inl rfl)
    · rw [c3]
      exact u 50000 (.inr rfl)
theorem lpts (s : Script) {most : Int} (h0 : 0 < most) (h1 : most ≤ 40) : ∃ l, m__law_points s most = some l ∧ l ≠ [] ∧ l.Nodup ∧ (l.length : Int) ≤ most ∧ ∀ p ∈ l, box 1000000 p := by
  obtain ⟨v, hv⟩ := cel (s := s) (k := 0) (by decide)
  have m0 := Int.emod_nonneg v (show most ≠ 0 by omega)
  have m1 := Int.emod_lt_of_pos v h0
  unfold m__law_points mb__law_points
  simp only [bind2_s, hv, bind_s, ofdiv_q v h0 (by omega), omod_s _ (show (0 : Int) < 6 by decide), omod_s v h0, oadd_s]
  rw [orng_s (by omega) (by omega), bind_s]
  refine loop_invE (Inv := fun i (g : List Pt) => g.Nodup ∧ g.length ≤ i ∧ (0 < i → g ≠ []) ∧ ∀ p ∈ g, box 1000000 p) (Post := fun o => ∃ l, retv o = some l ∧ l ≠ [] ∧ l.Nodup ∧ (l.length : Int) ≤ most ∧ ∀ p ∈ l, box 1000000 p) ⟨by simp, Nat.zero_le _, fun h => absurd h (Nat.lt_irrefl _), fun p hp => by cases hp⟩ (fun j x g hx ⟨i1, i2, i3, i4⟩ => ?_) fun g ⟨i1, i2, i3, i4⟩ => ?_
  · have hxm := mem_rngL.mp (List.mem_of_getElem? hx)
    have hj : j < (rngL (1 + v % most)).length := (List.getElem?_eq_some_iff.mp hx).1
    rw [rngL_len] at hj
    obtain ⟨c, hc⟩ := cel (s := s) (k := 1 + x) (by omega)
    obtain ⟨n, hn, n0⟩ := mxd c x
    obtain ⟨a, ha, a1, a2⟩ := pnt (k := v / most % 6) n0
    obtain ⟨q, hq, q2⟩ := grw (b := v / most / 6) (n := n) a1 a2
    simp only [bind2_s, hc, bind_s, hn, ha, ofdiv_q _ (show (0 : Int) < 6 by decide) (show (6 : Int) < 18446744073709551616 by decide), bind4_s, hq, onin_s, oite_s]
    by_cases hm : q ∈ g
    · rw [if_neg (by simp [hm])]
      exact ⟨g, .inl rfl, i1, by omega, fun _ z => (by rw [z] at hm; cases hm), i4⟩
    · rw [if_pos (by simp [hm])]
      refine ⟨g ++ [q], .inl ?_, List.nodup_append.mpr ⟨i1, by simp, fun x hx y hy e => hm (by rw [List.mem_singleton.mp hy] at e; rw [← e]; exact hx)⟩, by rw [List.length_append]; exact Nat.add_le_add_right i2 1, fun _ => by simp, fun p hp => ?_⟩
      · rw [oapp_s (by omega)]
        rfl
      · rcases List.mem_append.mp hp with h | h
        · exact i4 p h
        · rw [List.mem_singleton.mp h]
          exact q2
  · rw [rngL_len] at i2 i3
    exact ⟨g, rfl, i3 (by omega), i1, by omega, i4⟩
theorem lar {a b c : Pt} (ha : pb a) (hb : pb b) (hc : pb c) : m__law_area a b c = some (area a b c) := by
  unfold m__law_area mb__law_area
  simp only [ofst_s, osnd_s, osub_s, omul_b (bd_sub' hb.1 ha.1) (bd_sub' hc.2 hb.2), omul_b (bd_sub' hb.2 ha.2) (bd_sub' hc.1 hb.1), bind_s, oret_s, retv_ret, Option.some.injEq]
  unfold area
  grind
theorem foff {pts : List Pt} (hp : ∀ p ∈ pts, pb p) {o0 o1 : Int} {R : List Int} (hin : ∀ x ∈ o0 :: o1 :: R, 0 ≤ x ∧ x < pts.length) : m_first_off pts (o0 :: o1 :: R) = some ((2 + (R.takeWhile fun x => decide (area (ptAt pts o0) (ptAt pts o1) (ptAt pts x) = 0)).length : Nat) : Int) := by
  have at_ : ∀ x ∈ o0 :: o1 :: R, oidx (some pts) (some x) = some (ptAt pts x) ∧ pb (ptAt pts x) := fun x hx => ⟨ptAt_idx (hin x hx).1 (hin x hx).2, hp _ (ptAt_mem (hin x hx).1 (hin x hx).2)⟩
  obtain ⟨a0, b0⟩ := at_ o0 (by simp)
  obtain ⟨a1, b1⟩ := at_ o1 (by simp)
  have key : ∀ (B A : List Int), A ++ B = R → loopW (fun (g1 : (Int)) => (oand (olt (some g1) (olen (some (o0 :: o1 :: R)))) (oeq (bind3 (oidx (some pts) (oidx (some (o0 :: o1 :: R)) (some (0 : Int)))) (oidx (some pts) (oidx (some (o0 :: o1 :: R)) (some (1 : Int)))) (oidx (some pts) (oidx (some (o0 :: o1 :: R)) (some g1))) m_turn) (some (0 : Int))))) (fun (g1 : (Int)) => (Option.bind (oadd (some g1) (some (1 : Int))) fun (v_many : Int) => (some (.go (v_many) : Out Int (Int))))) ((2 + A.length : Nat) : Int) = some (.go ((2 + A.length + (B.takeWhile fun x => decide (area (ptAt pts o0) (ptAt pts o1) (ptAt pts x) = 0)).length : Nat) : Int)) := by
    intro B
    induction B with
    | nil =>
      intro A hA
      rw [List.append_nil] at hA
      subst hA
      exact loopW_f (by rw [olen_s, olt_s, show decide (((2 + A.length : Nat) : Int) < ((o0 :: o1 :: A).length : Int)) = false from decide_eq_false (by simp only [List.length_cons]; omega)]; rfl)
    | cons b B ih =>
      intro A hA
      have hb : b ∈ R := by rw [← hA]; simp
      obtain ⟨ab, bb⟩ := at_ b (by simp [hb])
      have gb : oidx (some (o0 :: o1 :: R)) (some ((2 + A.length : Nat) : Int)) = some b := by
        rw [idx_nat, ← hA, show 2 + A.length = (A.length + 1) + 1 by omega, List.getElem?_cons_succ, List.getElem?_cons_succ]
        simp
      have cond : oand (olt (some ((2 + A.length : Nat) : Int)) (olen (some (o0 :: o1 :: R)))) (oeq (bind3 (oidx (some pts) (oidx (some (o0 :: o1 :: R)) (some (0 : Int)))) (oidx (some pts) (oidx (some (o0 :: o1 :: R)) (some (1 : Int)))) (oidx (some pts) (oidx (some (o0 :: o1 :: R)) (some ((2 + A.length : Nat) : Int)))) m_turn) (some (0 : Int))) = some (decide (sgn (area (ptAt pts o0) (ptAt pts o1) (ptAt pts b)) = 0)) := by
        rw [olen_s, olt_s, show decide (((2 + A.length : Nat) : Int) < ((o0 :: o1 :: R).length : Int)) = true from decide_eq_true (by rw [← hA]; simp only [List.length_cons, List.length_append]; omega), gb, ab, idx_0, idx_1, a0, a1, bind3_s, tn b0 b1 bb, oeq_s, oand_s, if_pos rfl]
      by_cases hz : area (ptAt pts o0) (ptAt pts o1) (ptAt pts b) = 0
      · have e1 : (b :: B).takeWhile (fun x => decide (area (ptAt pts o0) (ptAt pts o1) (ptAt pts x) = 0)) = b :: B.takeWhile (fun x => decide (area (ptAt pts o0) (ptAt pts o1) (ptAt pts x) = 0)) := by rw [List.takeWhile_cons, if_pos (decide_eq_true hz)]
        rw [e1]
        have := ih (A ++ [b]) (by rw [← hA]; simp)
        rw [List.length_append, List.length_singleton] at this
        refine (loopW_t (g' := ((2 + (A.length + 1) : Nat) : Int)) (by rw [cond, hz]; rfl) ?_).trans (this.trans ?_)
        · rw [oadd_s, bind_s]
          congr 2
        · rw [List.length_cons]
          congr 3
          omega
      · have e1 : (b :: B).takeWhile (fun x => decide (area (ptAt pts o0) (ptAt pts o1) (ptAt pts x) = 0)) = [] := by rw [List.takeWhile_cons, if_neg (by rw [decide_eq_true_eq]; exact hz)]
        rw [e1]
        exact loopW_f (by rw [cond, show decide (sgn (area (ptAt pts o0) (ptAt pts o1) (ptAt pts b)) = 0) = false from decide_eq_false fun z => hz (sgn_eq0.mp z)])
  unfold m_first_off mb_first_off
  rw [bind_s]
  have := key R [] rfl
  rw [List.length_nil] at this
  show retv (thenO (loopW _ _ ((2 + 0 : Nat) : Int)) _) = _
  rw [this, thenO_go]
  rfl
theorem foff1 {pts : List Pt} {o : Int} : m_first_off pts [o] = some 2 := by
  unfold m_first_off mb_first_off
  rw [bind_s, loopW_eq, olen_s, olt_s]
  rfl
theorem jnd {X Y : List (Int × Int)} {G : List Int} (q : Int) (e : Y ++ X = prs G) (nd : G.Nodup) (hY : Y ≠ []) (hl : G.length ≤ 1000) : m_joined (X ++ Y) q = some (G ++ [q]) := by
  have lenp : (prs G).length = G.length - 1 := prs_len G
  have lenXY : Y.length + X.length = (prs G).length := by rw [← e, List.length_append]
  have lY : 0 < Y.length := List.length_pos_iff.mpr hY
  have Kne : X ++ Y ≠ [] := by simp [hY]
  -- the pair at a place of kept, and the one ahead of it
  have at_ : ∀ k, k < X.length → ∃ a b c, oidx (some (X ++ Y)) (osub (some (k : Int)) (some (1 : Int))) = some (a, b) ∧ oidx (some (X ++ Y)) (some (k : Int)) = some (b, c) := fun k hk => by
    have e1 : (X ++ Y)[k]? = (prs G)[Y.length + k]? := by rw [← e, List.getElem?_append_left hk, List.getElem?_append_right (by omega)]; congr 1; omega
    have e2 : oidx (some (X ++ Y)) (osub (some (k : Int)) (some (1 : Int))) = (prs G)[Y.length + k - 1]? := by
      rw [osub_s]
      cases k with
      | zero =>
        show oidx _ (some (-1 : Int)) = _
        rw [idx_last Kne, List.getLast?_append, ← e, List.getElem?_append_left (by omega), List.getLast?_eq_getElem?]
        simp only [Nat.add_zero]
        rw [List.getElem?_eq_getElem (by omega)]
        rfl
      | succ k =>
        rw [show (((k + 1 : Nat) : Int) - 1) = (k : Int) by omega, idx_nat, ← e, List.getElem?_append_left (by omega), List.getElem?_append_right (by omega)]
        congr 1
        omega
    obtain ⟨a, b, c, h1, h2⟩ := prs_next G (i := Y.length + k - 1) (by omega)
    rw [show Y.length + k - 1 + 1 = Y.length + k by omega] at h2
    exact ⟨a, b, c, by rw [e2, h1], by rw [idx_nat, e1, h2]⟩
  obtain ⟨g0, g1, hfst, hlst, hne⟩ := prs_ends (G := G) (by omega) nd
  have stop : ∃ a b, oidx (some (X ++ Y)) (osub (some (X.length : Int)) (some (1 : Int))) = some (a, g1) ∧ oidx (some (X ++ Y)) (some (X.length : Int)) = some (g0, b) := by
    obtain ⟨b, hb⟩ := hfst
    obtain ⟨a, ha⟩ := hlst
    refine ⟨a, b, ?_, ?_⟩
    · rw [osub_s]
      cases hX : X.length with
      | zero =>
        have : X = [] := List.length_eq_zero_iff.mp hX
        subst this
        show oidx _ (some (-1 : Int)) = _
        rw [idx_last Kne]
        rw [List.append_nil] at e
        rw [List.nil_append, e]
        exact ha
      | succ k =>
        rw [show (((k + 1 : Nat) : Int) - 1) = (k : Int) by omega, idx_nat, List.getElem?_append_left (by omega)]
        rw [← ha, ← e, List.getLast?_append, List.getLast?_eq_getElem?, hX, Nat.add_sub_cancel, List.getElem?_eq_getElem (by omega)]
        rfl
    · rw [idx_nat, List.getElem?_append_right (Nat.le_refl _), Nat.sub_self, ← hb, ← e, List.getElem?_append_left lY]
  have key : ∀ m k, k + m = X.length → loopW (fun (g1 : (Int)) => (oeq (osnd (oidx (some (X ++ Y)) (osub (some g1) (some (1 : Int))))) (ofst (oidx (some (X ++ Y)) (some g1))))) (fun (g1 : (Int)) => (Option.bind (oadd (some g1) (some (1 : Int))) fun (v_k : Int) => (some (.go (v_k) : Out (List Int) (Int))))) (k : Int) = some (.go (X.length : Int)) := by
    intro m
    induction m with
    | zero =>
      intro k hk
      obtain ⟨a, b, h1, h2⟩ := stop
      rw [Nat.add_zero] at hk
      rw [hk]
      exact loopW_f (by rw [h1, h2, osnd_s, ofst_s, oeq_s, show decide (g1 = g0) = false from decide_eq_false fun z => hne z.symm])
    | succ m ih =>
      intro k hk
      obtain ⟨a, b, c, h1, h2⟩ := at_ k (by omega)
      exact (loopW_t (g' := ((k + 1 : Nat) : Int)) (by rw [h1, h2, osnd_s, ofst_s, oeq_s, show decide (b = b) = true from decide_eq_true rfl]) (by rw [oadd_s, bind_s]; congr 2)).trans (ih (k + 1) (by omega))
  unfold m_joined mb_joined
  rw [bind_s]
  have k0 := key X.length 0 (by omega)
  show retv (thenO (loopW _ _ ((0 : Nat) : Int)) _) = _
  rw [k0, thenO_go, cut_from, cut_to, List.drop_left, List.take_left, ocat_s (by omega), e, bind_s, bind_s, if_pos (show capOk (prs G).length = true from decide_eq_true (by omega)), lcM_map (fun x : Int × Int => x.1) _ _ (fun x _ => ofst_s x), show oneg (some (1 : Int)) = some (-1) from rfl, idx_last (by rw [← e]; simp [hY])]
  obtain ⟨a, ha⟩ := hlst
  rw [ha, osnd_s, ocons_s, ocons_s, ocat_s (by rw [List.length_map]; simp; omega)]
  show some (List.map (fun x : Int × Int => x.1) (prs G) ++ ([g1] ++ [q])) = _
  rw [← List.append_assoc, prs_fst G ha]
/-- a point is met: what is seen, what stays -/
theorem inner {pts : List Pt} (hp : ∀ p ∈ pts, pb p) {A : List Int} {q : Int} {t : List Tri} (hA : ∀ x ∈ A, 0 ≤ x ∧ x < pts.length) (hq : 0 ≤ q ∧ q < pts.length) (ht : t.length + A.length ≤ 100000) :
    loopL (fun (x7 : Int) (g6 : ((List Tri) × (List (Int × Int)))) => (Option.bind (oidx (some A) (some x7)) fun (v_one : Int) => (Option.bind (oidx (some A) (omod (oadd (some x7) (some (1 : Int))) (olen (some A)))) fun (v_other : Int) => (thenO (oite (olt (bind3 (oidx (some pts) (some v_one)) (oidx (some pts) (some v_other)) (oidx (some pts) (some q)) m_turn) (some (0 : Int))) (Option.bind (oapp g6.1 (omk3 (some v_other) (some v_one) (some q))) fun (v_triangles : List Tri) => (some (.go (v_triangles, g6.2) : Out ((List Tri) × (List Int)) ((List Tri) × (List (Int × Int)))))) (Option.bind (oapp g6.2 (omk2 (some v_one) (some v_other))) fun (v_kept : List (Int × Int)) => (some (.go (g6.1, v_kept) : Out ((List Tri) × (List Int)) ((List Tri) × (List (Int × Int))))))) fun (g8 : ((List Tri) × (List (Int × Int)))) => (some (.go (g8.1, g8.2) : Out ((List Tri) × (List Int)) ((List Tri) × (List (Int × Int))))))))) (rngL (A.length : Int)) (t, []) =
      some (.go (t ++ ((cyc A).filter fun e => !keep (ptAt pts) q e).map (triOf q), (cyc A).filter (keep (ptAt pts) q))) := by
  have lc : (cyc A).length = A.length := cyc_len A
  refine loop_res (Inv := fun j (g : List Tri × List (Int × Int)) => g = (t ++ (((cyc A).take j).filter fun e => !keep (ptAt pts) q e).map (triOf q), ((cyc A).take j).filter (keep (ptAt pts) q))) (by simp) (fun j x g hx hI => ?_) (fun g' hI => ?_)
  case refine_2 =>
    rw [rngL_lenN] at hI
    rw [hI, show A.length = (cyc A).length from lc.symm, List.take_length]
  · skip
    have hj : j < A.length := by have := (List.getElem?_eq_some_iff.mp hx).1; rwa [rngL_lenN] at this
    rw [rngL_at _ _ hj] at hx
    cases hx
    obtain ⟨a, b, h1, h2, h3⟩ := cyc_get A hj
    have ma := hA a (List.mem_of_getElem? h1)
    have mb := hA b (List.mem_of_getElem? h2)
    have tk : (cyc A).take (j + 1) = (cyc A).take j ++ [(a, b)] := by rw [List.take_succ, h3]; rfl
    have l1 : (((cyc A).take j).filter fun e => !keep (ptAt pts) q e).length ≤ A.length := Nat.le_trans (List.length_filter_le ..) (by rw [List.length_take]; omega)
    have l2 : (((cyc A).take j).filter (keep (ptAt pts) q)).length ≤ A.length := Nat.le_trans (List.length_filter_le ..) (by rw [List.length_take]; omega)
    subst hI
    refine ⟨_, .inl ?_, rfl⟩
    dsimp only
    rw [idx_nat, h1, bind_s, olen_s, oadd_s, omod_s _ (by omega), show (((j : Int) + 1) % (A.length : Int)) = (((j + 1) % A.length : Nat) : Int) from (Int.natCast_emod (j + 1) A.length).symm, idx_nat, h2, bind_s, ptAt_idx ma.1 ma.2, ptAt_idx mb.1 mb.2, ptAt_idx hq.1 hq.2, bind3_s, tn (hp _ (ptAt_mem ma.1 ma.2)) (hp _ (ptAt_mem mb.1 mb.2)) (hp _ (ptAt_mem hq.1 hq.2)), olt_s, oite_s, tk, List.filter_append, List.filter_append]
    by_cases hk : 0 ≤ area (ptAt pts a) (ptAt pts b) (ptAt pts q)
    · have e1 : keep (ptAt pts) q (a, b) = true := decide_eq_true hk
      rw [if_neg (by rw [decide_eq_true_eq, sgn_lt0]; omega), omk2_s, oapp_s (by omega), bind_s, thenO_go, List.filter_cons_of_pos (p := keep (ptAt pts) q) e1, List.filter_cons_of_neg (p := fun e => !keep (ptAt pts) q e) (by rw [e1]; exact Bool.false_ne_true)]
      simp
    · have e1 : keep (ptAt pts) q (a, b) = false := decide_eq_false hk
      rw [if_pos (by rw [decide_eq_true_eq, sgn_lt0]; omega), omk3_s, oapp_s (by rw [List.length_append, List.length_map]; omega), bind_s, thenO_go, List.filter_cons_of_neg (p := keep (ptAt pts) q) (by rw [e1]; exact Bool.false_ne_true), List.filter_cons_of_pos (p := fun e => !keep (ptAt pts) q e) (by rw [e1]; rfl)]
      simp [triOf]
theorem ino {pts : List Pt} (hl : pts.length ≤ 1000) : m_in_order pts = some (ordr pts) := by
  unfold m_in_order mb_in_order
  rw [ord_all (by omega)]
  rfl
theorem swp {pts : List Pt} (hp : ∀ p ∈ pts, pb p) (nd : pts.Nodup) (hl : pts.length ≤ 100) (hn : pts ≠ []) (J : List Int → List Tri → List Int → Prop)
    (J0 : ∀ o0 o1 R z rest row, ordr pts = o0 :: o1 :: R ++ z :: rest → (∀ x ∈ R, area (ptAt pts o0) (ptAt pts o1) (ptAt pts x) = 0) → (0 < area (ptAt pts o0) (ptAt pts o1) (ptAt pts z) ∧ row = o0 :: o1 :: R ∨ area (ptAt pts o0) (ptAt pts o1) (ptAt pts z) < 0 ∧ row = (o0 :: o1 :: R).reverse) → HullAt (ptAt pts) (o0 :: o1 :: R ++ [z]) (row ++ [z]) → J (o0 :: o1 :: R ++ [z]) ((prs row).map fun e => ⟨e.1, e.2, z⟩) (row ++ [z]))
    (J1 : ∀ D q rest tr A A', ordr pts = D ++ q :: rest → HullAt (ptAt pts) D A → J D tr A → Grown (ptAt pts) q A A' → HullAt (ptAt pts) (D ++ [q]) A' → J (D ++ [q]) (tr ++ ((cyc A).filter fun e => !keep (ptAt pts) q e).map (triOf q)) A') :
    (m_swept pts = some ([], ordr pts) ∧ (∀ o0 o1 R, ordr pts = o0 :: o1 :: R → ∀ x ∈ R, area (ptAt pts o0) (ptAt pts o1) (ptAt pts x) = 0)) ∨
      (∃ tr A, m_swept pts = some (tr, A) ∧ HullAt (ptAt pts) (ordr pts) A ∧ J (ordr pts) tr A ∧ A.length ≤ 2 * pts.length ∧ ∃ o0 o1 R x, ordr pts = o0 :: o1 :: R ∧ x ∈ R ∧ area (ptAt pts o0) (ptAt pts o1) (ptAt pts x) ≠ 0) := by
  have ol := ordr_len pts
  have up := ordr_up nd
  have rg : ∀ x ∈ ordr pts, 0 ≤ x ∧ x < pts.length := fun x hx => ordr_mem.mp hx
  have inj : ∀ x y, x ∈ ordr pts → y ∈ ordr pts → ptAt pts x = ptAt pts y → x = y := fun x y hx hy e => ptAt_inj nd (rg x hx).1 (rg x hx).2 (rg y hy).1 (rg y hy).2 e
  unfold m_swept mb_swept
  simp only [bind_s, ino (Nat.le_trans hl (by decide)), bind2_s]
  match ho : ordr pts with
  | [] => rw [ho] at ol; exact absurd (List.length_eq_zero_iff.mp ol.symm) hn
  | [o] =>
    refine .inl ⟨?_, fun o0 o1 R e => by cases e⟩
    rw [foff1, bind_s, olen_s, oge_s, oite_s, if_pos (by rfl)]
    rfl
  | o0 :: o1 :: R0 =>
    rw [ho] at up rg inj ol
    rw [foff hp rg, bind_s]
    have hsp := List.takeWhile_append_dropWhile (p := fun x => decide (area (ptAt pts o0) (ptAt pts o1) (ptAt pts x) = 0)) (l := R0)
    have hfl : ∀ x ∈ R0.takeWhile fun x => decide (area (ptAt pts o0) (ptAt pts o1) (ptAt pts x) = 0), area (ptAt pts o0) (ptAt pts o1) (ptAt pts x) = 0 := fun x hx => of_decide_eq_true (List.all_eq_true.mp List.all_takeWhile x hx)
    have hhd := List.head?_dropWhile_not (fun x => decide (area (ptAt pts o0) (ptAt pts o1) (ptAt pts x) = 0)) R0
    generalize hT : R0.takeWhile (fun x => decide (area (ptAt pts o0) (ptAt pts o1) (ptAt pts x) = 0)) = R at hsp hfl ⊢
    generalize R0.dropWhile (fun x => decide (area (ptAt pts o0) (ptAt pts o1) (ptAt pts x) = 0)) = B at hsp hhd
    subst hsp
    cases B with
    | nil =>
      refine .inl ⟨?_, fun a b R' e => by cases e; rw [List.append_nil]; exact hfl⟩
      rw [List.append_nil, olen_s, oge_s, oite_s, if_pos (decide_eq_true (by simp only [List.length_cons]; omega))]
      rfl
    | cons z rest =>
      have hz : area (ptAt pts o0) (ptAt pts o1) (ptAt pts z) ≠ 0 := by
        have : (fun x => decide (area (ptAt pts o0) (ptAt pts o1) (ptAt pts x) = 0)) z = false := by simpa using hhd
        exact of_decide_eq_false this
      refine .inr ?_
      have sz : R.length + rest.length + 3 = pts.length := by rw [← ol]; simp only [List.length_cons, List.length_append]; omega
      rw [olen_s, oge_s, oite_s, if_neg (by rw [decide_eq_true_eq]; simp only [List.length_cons, List.length_append]; omega)]
      have ez : (o0 :: o1 :: (R ++ z :: rest))[2 + R.length]? = some z := by
        rw [show 2 + R.length = (R.length + 1) + 1 by omega, List.getElem?_cons_succ, List.getElem?_cons_succ, List.getElem?_append_right (Nat.le_refl _), Nat.sub_self]
        rfl
      have etk : (o0 :: o1 :: (R ++ z :: rest)).take (2 + R.length) = o0 :: o1 :: R := by
        rw [show 2 + R.length = (R.length + 1) + 1 by omega, List.take_succ_cons, List.take_succ_cons, List.take_left]
      have edr : (o0 :: o1 :: (R ++ z :: rest)).drop (2 + R.length + 1) = rest := by
        rw [show 2 + R.length + 1 = (R.length + 1) + 1 + 1 by omega, List.drop_succ_cons, List.drop_succ_cons, show R ++ z :: rest = (R ++ [z]) ++ rest by simp, show R.length + 1 = (R ++ [z]).length by simp, List.drop_left]
      have r0 := rg o0 (by simp)
      have r1 := rg o1 (by simp)
      have rz := rg z (by simp)
      rw [cut_to, etk, bind_s, idx_0, idx_1, idx_nat, ez, ptAt_idx r0.1 r0.2, ptAt_idx r1.1 r1.2, ptAt_idx rz.1 rz.2, bind3_s, tn (hp _ (ptAt_mem r0.1 r0.2)) (hp _ (ptAt_mem r1.1 r1.2)) (hp _ (ptAt_mem rz.1 rz.2)), olt_s, oite_s]
      have up1 : (o0 :: o1 :: R ++ [z]).Pairwise fun a b => lx (ptAt pts a) (ptAt pts b) := by
        rw [show o0 :: o1 :: (R ++ z :: rest) = (o0 :: o1 :: R ++ [z]) ++ rest by simp] at up
        exact (List.pairwise_append.mp up).1
      obtain ⟨row, hrow, hst, hlen⟩ : ∃ row, (0 < area (ptAt pts o0) (ptAt pts o1) (ptAt pts z) ∧ row = o0 :: o1 :: R ∨ area (ptAt pts o0) (ptAt pts o1) (ptAt pts z) < 0 ∧ row = (o0 :: o1 :: R).reverse) ∧
          (if decide (sgn (area (ptAt pts o0) (ptAt pts o1) (ptAt pts z)) < 0) = true then (Option.bind (orev (some (o0 :: o1 :: R))) fun (v_row : (List Int)) => (some (.go (v_row) : Out ((List Tri) × (List Int)) ((List Int))))) else (some (.go (o0 :: o1 :: R) : Out ((List Tri) × (List Int)) ((List Int))))) = some (.go row) ∧ row.length = R.length + 2 := by
        by_cases h : area (ptAt pts o0) (ptAt pts o1) (ptAt pts z) < 0
        · exact ⟨_, .inr ⟨h, rfl⟩, by rw [if_pos (by rw [decide_eq_true_eq, sgn_lt0]; exact h)]; rfl, by simp⟩
        · exact ⟨_, .inl ⟨by omega, rfl⟩, by rw [if_neg (by rw [decide_eq_true_eq, sgn_lt0]; exact h)], rfl⟩
      rw [hst, thenO_go, osub_s, show (((2 + R.length : Nat) : Int) - 1) = ((R.length + 1 : Nat) : Int) by omega, orng_s (by omega) (by omega), bind_s, if_pos (show capOk (rngL ((R.length + 1 : Nat) : Int)).length = true from decide_eq_true (by rw [rngL_lenN]; omega))]
      have epl : ((prs row).map fun e => (⟨e.1, e.2, z⟩ : Tri)).length = R.length + 1 := by rw [List.length_map, prs_len, hlen]; omega
      have elc : lcM oYes (fun (x2 : Int) => (omk3 (oidx (some row) (some x2)) (oidx (some row) (oadd (some x2) (some (1 : Int)))) (some z))) (rngL ((R.length + 1 : Nat) : Int)) = some ((prs row).map fun e => (⟨e.1, e.2, z⟩ : Tri)) := by
        rw [← epl]
        refine lcM_rng _ _ fun i hi => ?_
        rw [epl] at hi
        rw [List.getElem?_map, (prs_get row i (a := row[i]'(by omega)) (b := row[i + 1]'(by omega))).mpr ⟨List.getElem?_eq_getElem _, List.getElem?_eq_getElem _⟩, idx_nat, oadd_s, show ((i : Int) + 1) = ((i + 1 : Nat) : Int) by omega, idx_nat, List.getElem?_eq_getElem (by omega), List.getElem?_eq_getElem (by omega)]
        rfl
      have hul : HullAt (ptAt pts) (o0 :: o1 :: R ++ [z]) (row ++ [z]) := by
        rcases hrow with ⟨h, rfl⟩ | ⟨h, rfl⟩
        · exact ⟨[], o1 :: R, o0, z, rfl, hull_left up1 hfl h, List.getLast?_concat ..⟩
        · exact ⟨(o1 :: R).reverse, [], o0, z, by simp, hull_right up1 hfl h, List.getLast?_concat ..⟩
      have j0 := J0 o0 o1 R z rest row (by rw [ho]; simp) hfl hrow hul
      rw [elc, bind_s, ocons_s, ocat_s (by rw [hlen]; simp; omega), bind_s, oadd_s, show (((2 + R.length : Nat) : Int) + 1) = ((2 + R.length + 1 : Nat) : Int) by omega, cut_from, edr, bind_s]
      refine loop_splitE (Inv := fun D (g : List Tri × List Int) => HullAt (ptAt pts) D g.2 ∧ J D g.1 g.2 ∧ g.1.length ≤ 400 * D.length ∧ g.2.length ≤ 2 * D.length) (Post := fun o => ∃ tr A, retv o = some (tr, A) ∧ HullAt (ptAt pts) (o0 :: o1 :: (R ++ z :: rest)) A ∧ J (o0 :: o1 :: (R ++ z :: rest)) tr A ∧ A.length ≤ 2 * pts.length ∧ ∃ a b R' x, o0 :: o1 :: (R ++ z :: rest) = a :: b :: R' ∧ x ∈ R' ∧ area (ptAt pts a) (ptAt pts b) (ptAt pts x) ≠ 0)
        (o0 :: o1 :: (R ++ z :: rest)) rest (o0 :: o1 :: R ++ [z]) _ (by simp) ⟨hul, j0, by rw [epl]; simp; omega, by simp [hlen]; omega⟩ (fun D q R' g e hI => ?_) fun g' ⟨hH, hJ, _, k9⟩ => ?_
      case refine_2 => exact ⟨g'.1, g'.2, rfl, hH, hJ, by rw [ol] at k9; exact k9, o0, o1, _, z, rfl, by simp, hz⟩
      · skip
        obtain ⟨hH, hJ, k1, k2⟩ := hI
        have hD : D.length ≤ 100 := by
          have := congrArg List.length e
          rw [ol, List.length_append] at this
          omega
        have inD : ∀ x ∈ D, x ∈ o0 :: o1 :: (R ++ z :: rest) := fun x hx => by rw [e]; exact List.mem_append.mpr (.inl hx)
        obtain ⟨A', hg, hH'⟩ := grow (by rw [← e]; exact up) (fun x y hx hy => inj x y (inD x hx) (inD y hy)) hH
        have hA : ∀ x ∈ g.2, 0 ≤ x ∧ x < pts.length := fun x hx => rg x (inD x (by
          obtain ⟨U, Lo, l, r, eA, H, _⟩ := hH
          rw [eA] at hx
          rcases List.mem_append.mp (show x ∈ U ++ (l :: Lo ++ [r]) by simpa using hx) with h | h
          · exact H.upp.inS x (by simp [h])
          · exact H.low.inS x h))
        have rq := rg q (by rw [e]; simp)
        obtain ⟨X, Y, G, f1, f2, f3, f4, rfl⟩ := hg
        have hG : G.length ≤ g.2.length + 1 := by
          have h1 := prs_len G
          have h2 : (X ++ Y).length ≤ (cyc g.2).length := by rw [← f1]; exact List.length_filter_le ..
          rw [cyc_len] at h2
          have h3 := congrArg List.length f2
          rw [List.length_append] at h2 h3
          omega
        refine ⟨(g.1 ++ ((cyc g.2).filter fun e => !keep (ptAt pts) q e).map (triOf q), G ++ [q]), ?_, hH', ?_, ?_, ?_⟩
        · rw [show orng (olen (some g.2)) = some (rngL (g.2.length : Int)) by rw [olen_s, orng_s (by omega) (by omega)], bind_s, inner (t := g.1) hp hA rq (by omega), thenO_go]
          rw [f1, jnd q f2 f4 f3 (by omega), bind_s]
        · exact J1 D q R' g.1 g.2 _ (by rw [ho, e]) hH hJ ⟨X, Y, G, f1, f2, f3, f4, rfl⟩ hH'
        · have : (((cyc g.2).filter fun e => !keep (ptAt pts) q e).map (triOf q)).length ≤ (cyc g.2).length := by rw [List.length_map]; exact List.length_filter_le ..
          rw [cyc_len] at this
          rw [List.length_append, List.length_append, List.length_singleton]
          omega
        · simp only [List.length_append, List.length_singleton]
          omega

theorem hll {pts : List Pt} {t : List Tri} {A B R : List Int} {o : Int} (hs : m_swept pts = some (t, A ++ o :: B)) (ho : ordr pts = o :: R) (nd : (A ++ o :: B).Nodup) (hl : (A ++ o :: B).length ≤ 1000) (hp : pts.length ≤ 1000) : m_hull pts = some (o :: B ++ A) := by
  unfold m_hull mb_hull
  rw [bind_s, ino hp, bind_s, bind_s, hs, osnd_s, bind_s, ho, idx_0]
  have e : oindx (some (A ++ o :: B)) (some o) = some (A.length : Int) := oindx_at nd (by rw [List.getElem?_append_right (Nat.le_refl _), Nat.sub_self]; rfl)
  rw [e, bind_s, cut_from, cut_to, List.drop_left, List.take_left, ocat_s (by rw [List.length_append] at hl; omega), oret_s, retv_ret]
theorem edg {pts : List Pt} (hp : ∀ p ∈ pts, pb p) {a b : Int} (ha : 0 ≤ a ∧ a < pts.length) (hb : 0 ≤ b ∧ b < pts.length) (ab : a ≠ b)
    (h : ∀ x ∈ pts, 0 ≤ area (ptAt pts a) (ptAt pts b) x ∧ (area (ptAt pts a) (ptAt pts b) x = 0 → 0 ≤ ((ptAt pts a).1 - x.1) * ((ptAt pts b).1 - x.1) + ((ptAt pts a).2 - x.2) * ((ptAt pts b).2 - x.2))) : m__law_edge pts a b = some true := by
  have pa := hp _ (ptAt_mem ha.1 ha.2)
  have pbb := hp _ (ptAt_mem hb.1 hb.2)
  unfold m__law_edge mb__law_edge
  simp only [bind_s, ptAt_idx ha.1 ha.2, ptAt_idx hb.1 hb.2, ofst_s, osnd_s]
  refine loop_all2 (fun x hx => .inl ?_) ?_
  · have px := hp x hx
    obtain ⟨h1, h2⟩ := h x hx
    rw [bind3_s, lar pa pbb px, bind_s, osub_s, osub_s, omul_b (bd_sub' pa.1 px.1) (bd_sub' pbb.1 px.1), bind_s, osub_s, osub_s, omul_b (bd_sub' pa.2 px.2) (bd_sub' pbb.2 px.2), bind_s, oadd_s, olt_s, oeq_s, olt_s, oand_ss, oor_ss, oite_s, if_neg]
    simp only [Bool.or_eq_true, Bool.and_eq_true, decide_eq_true_eq]
    rintro (k | ⟨k1, k2⟩)
    · omega
    · have := h2 k1
      omega
  · rw [one_s, show decide (a = b) = false from decide_eq_false ab]
    rfl
theorem row0 {pts : List Pt} (hp : ∀ p ∈ pts, pb p) {a b : Pt} {R : List Pt} (e : pts = a :: b :: R) : m__law_in_row pts = some (!R.any fun x => decide (area a b x ≠ 0)) := by
  unfold m__law_in_row mb__law_in_row
  rw [show (2 : Int) = ((2 : Nat) : Int) from rfl, cut_from, bind_s]
  subst e
  have pa := hp a (by simp)
  have pbb := hp b (by simp)
  have := loop_dec (P := fun x => decide (area a b x ≠ 0)) (b := false) (f := fun (x2 : (Int × Int)) (g1 : Unit) => (oite (one_ (bind3 (oidx (some (a :: b :: R)) (some (0 : Int))) (oidx (some (a :: b :: R)) (some (1 : Int))) (some x2) m__law_area) (some (0 : Int))) (noGo (oret (some false))) (some (.go () : Out Bool Unit)))) R (fun x hx => by
    have px := hp x (by simp [hx])
    rw [idx_0, idx_1, bind3_s, lar pa pbb px, one_s, oite_s]
    by_cases k : area a b x = 0
    · simp [k]
    · simp [k]
      rfl)
  show retv (thenO (loopL _ R ()) _) = _
  rw [this]
  cases hk : R.any fun x => decide (area a b x ≠ 0) with
  | true => rfl
  | false => rfl
theorem rowT {pts : List Pt} (hp : ∀ p ∈ pts, pb p) (hn : pts ≠ []) (h : ∀ x ∈ pts, ∀ y ∈ pts, ∀ z ∈ pts, area x y z = 0) : m__law_in_row pts = some true := by
  cases pts with
  | nil => exact absurd rfl hn
  | cons a R =>
    cases R with
    | nil => rfl
    | cons b R =>
      rw [row0 hp rfl]
      have e : (R.any fun x => decide (area a b x ≠ 0)) = false := by
        rw [List.any_eq_false]
        intro x hx
        rw [decide_eq_true_eq, Classical.not_not]
        exact h a (by simp) b (by simp) x (by simp [hx])
      rw [e]
      rfl
theorem rowF {pts : List Pt} (hp : ∀ p ∈ pts, pb p) (nd : pts.Nodup) {x y z : Pt} (hx : x ∈ pts) (hy : y ∈ pts) (hz : z ∈ pts) (h : area x y z ≠ 0) : m__law_in_row pts = some false := by
  cases pts with
  | nil => cases hx
  | cons a R =>
    cases R with
    | nil =>
      rw [List.mem_singleton.mp hx, List.mem_singleton.mp hy] at h
      exact absurd (area_aab _ _) h
    | cons b R =>
      rw [row0 hp rfl]
      have e : (R.any fun x => decide (area a b x ≠ 0)) = true := by
        by_cases k : (R.any fun x => decide (area a b x ≠ 0)) = true
        · exact k
        · exfalso
          have ab : a ≠ b := fun e => by rw [e] at nd; exact (List.nodup_cons.mp nd).1 (by simp)
          have zz : ∀ y ∈ a :: b :: R, area a b y = 0 := fun y hy => by
            rcases List.mem_cons.mp hy with rfl | hy
            · exact area_aba _ _
            · rcases List.mem_cons.mp hy with rfl | hy
              · exact area_abb _ _
              · by_cases q : area a b y = 0
                · exact q
                · exact absurd (List.any_eq_true.mpr ⟨y, hy, decide_eq_true q⟩) k
          exact h (col3 ab (zz _ hx) (zz _ hy) (zz _ hz))
      rw [e]
      rfl
theorem whole_all (l : List Int) (h : l.length ≤ 1000) : oall (if capOk l.length = true then lcM oYes (fun (x2 : Int) => m__law_whole x2) l else none) = some true := by
  rw [if_pos (show capOk l.length = true from decide_eq_true (by omega)), lcM_map (fun _ => true) (fun (x2 : Int) => m__law_whole x2) _ (fun x _ => rfl)]
  show some _ = _
  simp
theorem numb {l : List Int} (h : l.length ≤ 1000) : m__law_numbers l l = some true := by
  unfold m__law_numbers mb__law_numbers
  simp only [bind_s]
  rw [whole_all l h, show oisi (some l) true = some true from rfl, onot_s, one_s, decide_eq_true (rfl : l = l)]
  rfl
theorem main {pts : List Pt} (hp : ∀ p ∈ pts, pb p) (nd : pts.Nodup) (hn : pts ≠ []) (hl : pts.length ≤ 40) : retv (γ := Unit) (Option.bind (some pts) fun (v_l_handed : (List (Int × Int))) => (Option.bind (Option.bind (some v_l_handed) m_hull) fun (v_l_found : (List Int)) => (oite (oor (onot (oisi (some v_l_found) true)) (one_ (some v_l_handed) (some pts))) (noGo (oret (some false))) (oite (onot (oall (Option.bind (some v_l_found) fun xs3 => if capOk xs3.length then lcM oYes (fun (x2 : Int) => (Option.bind (some x2) m__law_whole)) xs3 else none))) (noGo (oret (some false))) (oite (Option.bind (some pts) m__law_in_row) (noGo (Option.bind (Option.bind (osort (some pts)) fun xs5 => if capOk xs5.length then lcM oYes (fun (x4 : (Int × Int)) => (oindx (some pts) (some x4))) xs5 else none) fun (v_l_due : (List Int)) => (oret (bind2 (some v_l_found) (some v_l_due) m__law_numbers)))) (oite (oor (olt (olen (some v_l_found)) (some (3 : Int))) (one_ (osetl (some v_l_found)) (olen (some v_l_found)))) (noGo (oret (some false))) (oite (oor (olt (ominL (some v_l_found)) (some (0 : Int))) (oge (omaxL (some v_l_found)) (olen (some pts)))) (noGo (oret (some false))) (oite (one_ (oidx (some pts) (oidx (some v_l_found) (some (0 : Int)))) (ominL (some pts))) (noGo (oret (some false))) (Option.bind (orng (olen (some v_l_found))) fun xs11 => thenO (loopL (fun (x7 : Int) (g6 : Unit) => (oite (onot (bind3 (some pts) (oidx (some v_l_found) (osub (some x7) (some (1 : Int)))) (oidx (some v_l_found) (some x7)) m__law_edge)) (noGo (oret (some false))) (Option.bind (orng (olen (some pts))) fun xs10 => thenO (loopL (fun (x9 : Int) (g8 : Unit) => (oite (oin (some x9) (some v_l_found)) (noGo (some (.cnt () : Out Bool Unit))) (oite (onot (bind4 (some pts) (oidx (some v_l_found) (osub (some x7) (some (1 : Int)))) (oidx (some v_l_found) (some x7)) (some x9) m__law_inside)) (noGo (oret (some false))) (some (.go () : Out Bool Unit))))) xs10 ()) fun (g8 : Unit) => (some (.go () : Out Bool Unit))))) xs11 ()) fun (g6 : Unit) => (oret (ogt (olen (Option.bind (some v_l_handed) m_hull)) (some (2 : Int))))))))))))) = some true := by
  have rg : ∀ x ∈ ordr pts, 0 ≤ x ∧ x < pts.length := fun x hx => ordr_mem.mp hx
  have ol := ordr_len pts
  simp only [bind_s]
  rcases swp hp nd (by omega) hn (fun _ _ _ => True) (fun _ _ _ _ _ _ _ _ _ _ => trivial) (fun _ _ _ _ _ _ _ _ _ _ _ => trivial) with ⟨hs, hf⟩ | ⟨tr, A, hs, hA, _, hAl, hnf⟩
  · -- all in a row
    have hh : m_hull pts = some (ordr pts) := by
      obtain ⟨o, R, ho⟩ : ∃ o R, ordr pts = o :: R := by
        cases h : ordr pts with
        | nil => rw [h] at ol; exact absurd (List.length_eq_zero_iff.mp ol.symm) hn
        | cons o R => exact ⟨o, R, rfl⟩
      have := hll (A := []) (B := R) (t := []) (by rw [hs, ho]; rfl) ho (by rw [List.nil_append, ← ho]; exact ordr_nodup pts) (by rw [List.nil_append, ← ho]; omega) (by omega)
      rw [this, ho, List.append_nil]
    have hrow : m__law_in_row pts = some true := by
      refine rowT hp hn fun x hx y hy z hz => ?_
      have up := ordr_up nd
      cases ho : ordr pts with
      | nil => rw [ho] at ol; exact absurd (List.length_eq_zero_iff.mp ol.symm) hn
      | cons o0 R0 =>
        cases R0 with
        | nil =>
          rw [ho] at ol
          obtain ⟨i, i0, i1, rfl⟩ := ptAt_of hx
          obtain ⟨j, j0, j1, rfl⟩ := ptAt_of hy
          have : i = j := by simp at ol; omega
          rw [this]
          exact area_aab _ _
        | cons o1 R' =>
          have f := hf o0 o1 R' ho
          rw [ho] at up
          have ne : ptAt pts o0 ≠ ptAt pts o1 := lx_ne ((List.pairwise_cons.mp up).1 o1 (by simp))
          have all0 : ∀ y ∈ pts, area (ptAt pts o0) (ptAt pts o1) y = 0 := fun y hy => by
            obtain ⟨i, i0, i1, rfl⟩ := ptAt_of hy
            have hi := ordr_mem.mpr ⟨i0, i1⟩
            rw [ho] at hi
            rcases List.mem_cons.mp hi with rfl | hi
            · exact area_aba _ _
            · rcases List.mem_cons.mp hi with rfl | hi
              · exact area_abb _ _
              · exact f i hi
          exact col3 ne (all0 x hx) (all0 y hy) (all0 z hz)
    rw [hh, bind_s, show oisi (some (ordr pts)) true = some true from rfl, onot_s, one_s, decide_eq_true (rfl : pts = pts), whole_all _ (by omega), hrow, osort_pts nd, bind_s, if_pos (show capOk ((ordr pts).map (ptAt pts)).length = true from decide_eq_true (by rw [List.length_map]; omega))]
    have el : lcM oYes (fun (x4 : (Int × Int)) => (oindx (some pts) (some x4))) ((ordr pts).map (ptAt pts)) = some (ordr pts) := lcM_back nd _ (fun _ => rfl) _ rg
    rw [el, bind_s, bind2_s, numb (by omega)]
    rfl
  · obtain ⟨U, Lo, l, r, rfl, H, hr⟩ := hA
    obtain ⟨o0, o1, R, x0, ho, hx0, hx1⟩ := hnf
    have up := ordr_up nd
    have inC : ∀ x, x ∈ l :: Lo ++ [r] → x ∈ ordr pts := H.low.inS
    have inU : ∀ x, x ∈ l :: U.reverse ++ [r] → x ∈ ordr pts := H.upp.inS
    have hlo : l = o0 := by
      have h1 := H.low.lo o0 (by rw [ho]; simp) l (Lo ++ [r]) rfl
      have h2 := inC l (by simp)
      rw [ho] at h2 up
      rcases List.mem_cons.mp h2 with h2 | h2
      · exact h2
      · exact absurd ((List.pairwise_cons.mp up).1 l h2) h1
    have eA : U ++ l :: Lo ++ [r] = U ++ l :: (Lo ++ [r]) := by simp
    have hlen : U.length + Lo.length + 2 ≤ 2 * pts.length := by simpa using (by
      have := hAl
      simp only [List.length_append, List.length_cons, List.length_nil] at this
      omega : U.length + Lo.length + 2 ≤ 2 * pts.length)
    have hh : m_hull pts = some (l :: Lo ++ r :: U) := by
      have := hll (A := U) (B := Lo ++ [r]) (t := tr) (o := l) (R := o1 :: R) (by rw [hs, eA]) (by rw [ho, hlo]) (by rw [← eA]; exact H.nd) (by simp; omega) (by omega)
      rw [this]
      simp
    have ndF : (l :: Lo ++ r :: U).Nodup := by
      have e : (l :: Lo ++ r :: U).Perm (U ++ l :: Lo ++ [r]) := by
        rw [show l :: Lo ++ r :: U = (l :: Lo ++ [r]) ++ U by simp, show U ++ l :: Lo ++ [r] = U ++ (l :: Lo ++ [r]) by simp]
        exact List.perm_append_comm
      exact e.nodup_iff.mpr H.nd
    have inF : ∀ x ∈ l :: Lo ++ r :: U, 0 ≤ x ∧ x < pts.length := fun x hx => rg x (by
      rcases List.mem_append.mp hx with k | k
      · exact inC x (List.mem_append.mpr (.inl k))
      · rcases List.mem_cons.mp k with rfl | k
        · exact inC _ (by simp)
        · exact inU x (by simp [k]))
    have fl : (l :: Lo ++ r :: U).length = U.length + Lo.length + 2 := by simp; omega
    have fat : 3 ≤ (l :: Lo ++ r :: U).length := by
      rw [fl]
      rcases H.fat with k | k
      · have := List.length_pos_iff.mpr k; omega
      · have := List.length_pos_iff.mpr k; omega
    have hrow : m__law_in_row pts = some false := by
      have m0 := rg o0 (by rw [ho]; simp)
      have m1 := rg o1 (by rw [ho]; simp)
      have m2 := rg x0 (by rw [ho]; simp [hx0])
      exact rowF hp nd (ptAt_mem m0.1 m0.2) (ptAt_mem m1.1 m1.2) (ptAt_mem m2.1 m2.2) hx1
    have sides := hull_sides H
    rw [hh, bind_s, show oisi (some (l :: Lo ++ r :: U)) true = some true from rfl, onot_s, one_s, decide_eq_true (rfl : pts = pts), whole_all _ (by omega), hrow]
    have ml := inC l (by simp)
    have k6 : oidx (some pts) (oidx (some (l :: Lo ++ r :: U)) (some (0 : Int))) = some (ptAt pts l) := by
      show oidx (some pts) (oidx (some (l :: (Lo ++ r :: U))) (some (0 : Int))) = _
      rw [idx_0, ptAt_idx (rg l ml).1 (rg l ml).2]
    have k7 : ominL (some pts) = some (ptAt pts l) := ominL_pt (ptAt_mem (rg l ml).1 (rg l ml).2) fun x hx => by
      obtain ⟨i, i0, i1, rfl⟩ := ptAt_of hx
      exact H.low.lo i (ordr_mem.mpr ⟨i0, i1⟩) l (Lo ++ [r]) rfl
    generalize l :: Lo ++ r :: U = F at *
    obtain ⟨mn, k4, k4'⟩ := ominL_in (F := F) (by intro z; rw [z] at fat; simp at fat)
    obtain ⟨mx, k5, k5'⟩ := omaxL_in (F := F) (by intro z; rw [z] at fat; simp at fat)
    have k4' := inF mn k4'
    have k5' := inF mx k5'
    rw [osetl_nd ndF (by omega), k4, k5, k6, k7, olen_s, olen_s, olt_s, one_s, olt_s, oge_s, one_s, decide_eq_false (by omega : ¬ (F.length : Int) < 3), decide_eq_true (rfl : (F.length : Int) = F.length), decide_eq_false (by omega : ¬ mn < 0), decide_eq_false (by omega : ¬ (pts.length : Int) ≤ mx), decide_eq_true (rfl : ptAt pts l = ptAt pts l), orng_s (by omega) (by omega), bind_s, orng_s (by omega) (by omega)]
    simp only [oor_ss, oite_s, Bool.not_true, Bool.or_false, Bool.false_eq_true, if_false, onot_s]
    refine loop_all2 (fun x hx => .inl ?_) ?_
    · obtain ⟨x0', x1'⟩ := mem_rngL.mp hx
      obtain ⟨j, rfl⟩ : ∃ j : Nat, x = (j : Int) := ⟨x.toNat, by omega⟩
      obtain ⟨a, b, e1, e2, e3⟩ := cyc_prev F (j := j) (by omega)
      obtain ⟨ab, sd⟩ := sides _ e3
      dsimp only at ab sd
      have mab := prs_in e3
      have inH : ∀ y, y ∈ F ++ [F.headD 0] → y ∈ F := fun y hy => by
        rcases List.mem_append.mp hy with k | k
        · exact k
        · rw [List.mem_singleton.mp k]
          cases F with
          | nil => simp at fat
          | cons c t => simp
      have ma := inF a (inH a mab.1)
      have mb := inF b (inH b mab.2)
      rw [e1, e2, bind3_s, edg hp ma mb ab (fun y hy => by
        obtain ⟨i, i0, i1, rfl⟩ := ptAt_of hy
        obtain ⟨s1, s2⟩ := sd i (ordr_mem.mpr ⟨i0, i1⟩)
        exact ⟨s1, fun z => (s2 z).2⟩)]
      simp only [onot_s, oite_s, Bool.not_true, Bool.false_eq_true, if_false, bind_s]
      refine loop_all2O (fun y hy => ?_) rfl
      obtain ⟨y0, y1⟩ := mem_rngL.mp hy
      by_cases hyF : y ∈ F
      · refine .inr ?_
        rw [oin_s, oite_s, if_pos (by simp [hyF])]
        rfl
      · refine .inl ?_
        obtain ⟨s1, s2⟩ := sd y (ordr_mem.mpr ⟨y0, y1⟩)
        have pos : 0 < area (ptAt pts a) (ptAt pts b) (ptAt pts y) := by
          rcases Int.lt_or_eq_of_le s1 with k | k
          · exact k
          · exact absurd (s2 k.symm).1 hyF
        have ins : m__law_inside pts a b y = some true := by
          unfold m__law_inside mb__law_inside
          rw [ptAt_idx ma.1 ma.2, ptAt_idx mb.1 mb.2, ptAt_idx y0 y1, bind3_s, lar (hp _ (ptAt_mem ma.1 ma.2)) (hp _ (ptAt_mem mb.1 mb.2)) (hp _ (ptAt_mem y0 y1)), ogt_s, decide_eq_true pos]
          rfl
        rw [oin_s, oite_s, if_neg (by simp [hyF]), bind4_s, ins]
        rfl
    · rw [ogt_s, decide_eq_true (by omega : (2 : Int) < F.length)]
      rfl
theorem law_true (ns : List Int) (_ : ns.length ≤ 63) : m_law ⟨ns⟩ = some true := by
  obtain ⟨l1, a1, a2, a3, a4, a5⟩ := lpts ⟨ns⟩ (most := 12) (by decide) (by decide)
  obtain ⟨l2, b1, b2, b3, b4, b5⟩ := lpts ⟨ns⟩ (most := 20) (by decide) (by decide)
  obtain ⟨v, hv⟩ := cel (s := ⟨ns⟩) (k := 20) (by decide)
  unfold m_law mb_law
  rw [bind2_s, a1, bind_s, bind2_s, hv, omod_s v (by decide), oeq_s, oite_s, bind2_s, b1]
  by_cases k : v % 9 = 4
  · rw [if_pos (decide_eq_true k), bind_s, thenO_go]
    exact main (fun p hp => pb_of (b5 p hp)) b3 b2 (by omega)
  · rw [if_neg (by rw [decide_eq_true_eq]; exact k), thenO_go]
    exact main (fun p hp => pb_of (a5 p hp)) a3 a2 (by omega)
end G_k04
namespace G_k04
open PySem PySem.Spec PyProof.Rows L2 T
theorem facts [Tb] {P : Program} {w : World} {K : PySem.W.Frag} {h : Heap} {mg : Str → Option Value} {f : Addr} (X : K.In h) (G : h.Ns mainGlobals mg) (hfa : mg ("law" : Str) = some (.ref f)) (c : He.SaysD fa fn K) (hx : xb K = true) (hT : Tb.T = [((He.cT K ("in_order", none)).2, lamN)]) :
    ∃ fd : FuncData, (∀ (s : Shared) (v : Value), BindsTo s fd ⟨[v], []⟩ [("_law_script", v)]) ∧ ∀ base : Heap, K.In base → base.Ns mainGlobals mg → LamX.TabB base mg (He.codeOf K ("in_order", none)) (He.cT K ("in_order", none)).2 → FnOk P w K mg base CX0 6 f fd ["_law_script"] (spOf K false (C1 m_law)) := by
  have B : Fr mg := ⟨(He.free_ok X G (c.fact 20 (f := .free "int") rfl)), (He.free_ok X G (c.fact 21 (f := .free "sorted") rfl)), (He.free_ok X G (c.fact 22 (f := .free "list") rfl)), (He.free_ok X G (c.fact 23 (f := .free "range") rfl)), (He.free_ok X G (c.fact 24 (f := .free "len") rfl)), (He.free_ok X G (c.fact 25 (f := .free "reversed") rfl)), (He.free_ok X G (c.fact 26 (f := .free "isinstance") rfl)), (He.free_ok X G (c.fact 27 (f := .free "bool") rfl)), (He.free_ok X G (c.fact 28 (f := .free "all") rfl)), (He.free_ok X G (c.fact 29 (f := .free "set") rfl)), (He.free_ok X G (c.fact 30 (f := .free "min") rfl)), (He.free_ok X G (c.fact 31 (f := .free "max") rfl))⟩
  obtain ⟨fd0, F0⟩ := c.def_ 0 (d := d_twice_area) rfl
  have b0 : Binds K fd0 ["a", "b", "c"] [] := F0.bindsN fun _ _ _ _ _ _ us hl => match us, hl with | [_, _, _], _ => rfl
  obtain ⟨fd1, F1⟩ := c.def_ 1 (d := d_sign) rfl
  have b1 : Binds K fd1 ["number"] [] := F1.bindsN fun _ _ _ _ _ _ us hl => match us, hl with | [_], _ => rfl
  obtain ⟨fd2, F2⟩ := c.def_ 2 (d := d_turn) rfl
  have b2 : Binds K fd2 ["a", "b", "c"] [] := F2.bindsN fun _ _ _ _ _ _ us hl => match us, hl with | [_, _, _], _ => rfl
  obtain ⟨fd3, F3⟩ := c.def_ 3 (d := d_in_order) rfl
  have b3 : Binds K fd3 ["points"] [] := F3.bindsN fun _ _ _ _ _ _ us hl => match us, hl with | [_], _ => rfl
  obtain ⟨fd4, F4⟩ := c.def_ 4 (d := d_first_off) rfl
  have b4 : Binds K fd4 ["points", "order"] [] := F4.bindsN fun _ _ _ _ _ _ us hl => match us, hl with | [_, _], _ => rfl
  obtain ⟨fd5, F5⟩ := c.def_ 5 (d := d_swept) rfl
  have b5 : Binds K fd5 ["points"] [] := F5.bindsN fun _ _ _ _ _ _ us hl => match us, hl with | [_], _ => rfl
  obtain ⟨fd6, F6⟩ := c.def_ 6 (d := d_joined) rfl
  have b6 : Binds K fd6 ["kept", "number"] [] := F6.bindsN fun _ _ _ _ _ _ us hl => match us, hl with | [_, _], _ => rfl
  obtain ⟨fd7, F7⟩ := c.def_ 7 (d := d_hull) rfl
  have b7 : Binds K fd7 ["points"] [] := F7.bindsN fun _ _ _ _ _ _ us hl => match us, hl with | [_], _ => rfl
  obtain ⟨fd8, F8⟩ := c.def_ 8 (d := d__law_cell_at) rfl
  have b8 : Binds K fd8 ["_law_script", "_law_k"] [] := F8.bindsN fun _ _ _ _ _ _ us hl => match us, hl with | [_, _], _ => rfl
  obtain ⟨fd9, F9⟩ := c.def_ 9 (d := d__law_mixed) rfl
  have b9 : Binds K fd9 ["_law_cell", "_law_k"] [] := F9.bindsN fun _ _ _ _ _ _ us hl => match us, hl with | [_, _], _ => rfl
  obtain ⟨fd10, F10⟩ := c.def_ 10 (d := d__law_point) rfl
  have b10 : Binds K fd10 ["_law_kind", "_law_number"] [] := F10.bindsN fun _ _ _ _ _ _ us hl => match us, hl with | [_, _], _ => rfl
  obtain ⟨fd11, F11⟩ := c.def_ 11 (d := d__law_grown) rfl
  have b11 : Binds K fd11 ["_law_point_here", "_law_kind", "_law_by", "_law_number"] [] := F11.bindsN fun _ _ _ _ _ _ us hl => match us, hl with | [_, _, _, _], _ => rfl
  obtain ⟨fd12, F12⟩ := c.def_ 12 (d := d__law_points) rfl
  have b12 : Binds K fd12 ["_law_script", "_law_most"] [] := F12.bindsN fun _ _ _ _ _ _ us hl => match us, hl with | [_, _], _ => rfl
  obtain ⟨fd13, F13⟩ := c.def_ 13 (d := d__law_area) rfl
  have b13 : Binds K fd13 ["_law_a", "_law_b", "_law_c"] [] := F13.bindsN fun _ _ _ _ _ _ us hl => match us, hl with | [_, _, _], _ => rfl
  obtain ⟨fd14, F14⟩ := c.def_ 14 (d := d__law_whole) rfl
  have b14 : Binds K fd14 ["_law_found"] [] := F14.bindsN fun _ _ _ _ _ _ us hl => match us, hl with | [_], _ => rfl
  obtain ⟨fd15, F15⟩ := c.def_ 15 (d := d__law_numbers) rfl
  have b15 : Binds K fd15 ["_law_found", "_law_due"] [] := F15.bindsN fun _ _ _ _ _ _ us hl => match us, hl with | [_, _], _ => rfl
  obtain ⟨fd16, F16⟩ := c.def_ 16 (d := d__law_edge) rfl
  have b16 : Binds K fd16 ["_law_points_here", "_law_a", "_law_b"] [] := F16.bindsN fun _ _ _ _ _ _ us hl => match us, hl with | [_, _, _], _ => rfl
  obtain ⟨fd17, F17⟩ := c.def_ 17 (d := d__law_in_row) rfl
  have b17 : Binds K fd17 ["_law_points_here"] [] := F17.bindsN fun _ _ _ _ _ _ us hl => match us, hl with | [_], _ => rfl
  obtain ⟨fd18, F18⟩ := c.def_ 18 (d := d__law_inside) rfl
  have b18 : Binds K fd18 ["_law_points_here", "_law_a", "_law_b", "_law_number"] [] := F18.bindsN fun _ _ _ _ _ _ us hl => match us, hl with | [_, _, _, _], _ => rfl
  obtain ⟨fd19, F19⟩ := c.def_ 19 (d := d_law) rfl
  have e := hfa.symm.trans (He.glo_ok X G (c.fact 19 (f := .glo "law") rfl))
  cases e
  have bl := FunD.bindsA (ps := ["_law_script"]) F19 fun _ _ _ _ _ _ us hl => match us, hl with | [_], _ => rfl
  refine ⟨fd19, fun s v => bl s [v] rfl, fun base _ _ TB => ?_⟩
  have h_twice_area : Has P w K mg base 1 "twice_area" ["a", "b", "c"] (spOf K false (C3 m_twice_area)) := has_of (ok_twice_area B  F0) (He.glo_ok X G (c.fact 0 (f := .glo "twice_area") rfl)) F0.kp b0
  have h_sign : Has P w K mg base 1 "sign" ["number"] (spOf K false (C1 m_sign)) := has_of (ok_sign B  F1) (He.glo_ok X G (c.fact 1 (f := .glo "sign") rfl)) F1.kp b1
  have h_turn : Has P w K mg base 2 "turn" ["a", "b", "c"] (spOf K false (C3 m_turn)) := has_of (ok_turn B h_twice_area h_sign F2) (He.glo_ok X G (c.fact 2 (f := .glo "turn") rfl)) F2.kp b2
  have h_in_order : Has P w K mg base 2 "in_order" ["points"] (spOf K true (C1 m_in_order)) := has_of (ok_in_order B hT TB F3) (He.glo_ok X G (c.fact 3 (f := .glo "in_order") rfl)) F3.kp b3
  have h_first_off : Has P w K mg base 3 "first_off" ["points", "order"] (spOf K false (C2 m_first_off)) := has_of (ok_first_off B h_turn F4) (He.glo_ok X G (c.fact 4 (f := .glo "first_off") rfl)) F4.kp b4
  have h_joined : Has P w K mg base 1 "joined" ["kept", "number"] (spOf K true (C2 m_joined)) := has_of (ok_joined B  F6) (He.glo_ok X G (c.fact 6 (f := .glo "joined") rfl)) F6.kp b6
  have h_swept : Has P w K mg base 4 "swept" ["points"] (spOf K false (C1 m_swept)) := has_of (ok_swept B h_in_order h_first_off h_turn h_joined F5) (He.glo_ok X G (c.fact 5 (f := .glo "swept") rfl)) F5.kp b5
  have h_hull : Has P w K mg base 5 "hull" ["points"] (spOf K true (C1 m_hull)) := has_of (ok_hull B h_in_order h_swept F7) (He.glo_ok X G (c.fact 7 (f := .glo "hull") rfl)) F7.kp b7
  have h__law_cell_at : Has P w K mg base 1 "_law_cell_at" ["_law_script", "_law_k"] (spOf K false (C2 m__law_cell_at)) := has_of (ok__law_cell_at B  F8) (He.glo_ok X G (c.fact 8 (f := .glo "_law_cell_at") rfl)) F8.kp b8
  have h__law_mixed : Has P w K mg base 1 "_law_mixed" ["_law_cell", "_law_k"] (spOf K false (C2 m__law_mixed)) := has_of (ok__law_mixed B  F9) (He.glo_ok X G (c.fact 9 (f := .glo "_law_mixed") rfl)) F9.kp b9
  have h__law_point : Has P w K mg base 1 "_law_point" ["_law_kind", "_law_number"] (spOf K false (C2 m__law_point)) := has_of (ok__law_point B  F10) (He.glo_ok X G (c.fact 10 (f := .glo "_law_point") rfl)) F10.kp b10
  have h__law_grown : Has P w K mg base 1 "_law_grown" ["_law_point_here", "_law_kind", "_law_by", "_law_number"] (spOf K false (C4 m__law_grown)) := has_of (ok__law_grown B  F11) (He.glo_ok X G (c.fact 11 (f := .glo "_law_grown") rfl)) F11.kp b11
  have h__law_points : Has P w K mg base 2 "_law_points" ["_law_script", "_law_most"] (spOf K true (C2 m__law_points)) := has_of (ok__law_points B h__law_cell_at h__law_mixed h__law_point h__law_grown F12) (He.glo_ok X G (c.fact 12 (f := .glo "_law_points") rfl)) F12.kp b12
  have h__law_area : Has P w K mg base 1 "_law_area" ["_law_a", "_law_b", "_law_c"] (spOf K false (C3 m__law_area)) := has_of (ok__law_area B  F13) (He.glo_ok X G (c.fact 13 (f := .glo "_law_area") rfl)) F13.kp b13
  have h__law_whole : Has P w K mg base 1 "_law_whole" ["_law_found"] (spOf K false (C1 m__law_whole)) := has_of (ok__law_whole B  F14) (He.glo_ok X G (c.fact 14 (f := .glo "_law_whole") rfl)) F14.kp b14
  have h__law_numbers : Has P w K mg base 2 "_law_numbers" ["_law_found", "_law_due"] (spOf K false (C2 m__law_numbers)) := has_of (ok__law_numbers B h__law_whole F15) (He.glo_ok X G (c.fact 15 (f := .glo "_law_numbers") rfl)) F15.kp b15
  have h__law_edge : Has P w K mg base 2 "_law_edge" ["_law_points_here", "_law_a", "_law_b"] (spOf K false (C3 m__law_edge)) := has_of (ok__law_edge B h__law_area F16) (He.glo_ok X G (c.fact 16 (f := .glo "_law_edge") rfl)) F16.kp b16
  have h__law_in_row : Has P w K mg base 2 "_law_in_row" ["_law_points_here"] (spOf K false (C1 m__law_in_row)) := has_of (ok__law_in_row B h__law_area F17) (He.glo_ok X G (c.fact 17 (f := .glo "_law_in_row") rfl)) F17.kp b17
  have h__law_inside : Has P w K mg base 2 "_law_inside" ["_law_points_here", "_law_a", "_law_b", "_law_number"] (spOf K false (C4 m__law_inside)) := has_of (ok__law_inside B h__law_area F18) (He.glo_ok X G (c.fact 18 (f := .glo "_law_inside") rfl)) F18.kp b18
  exact ok_law B h__law_points h__law_cell_at h_hull h__law_whole h__law_in_row h__law_numbers h__law_edge h__law_inside F19
end G_k04
open PySem PySem.W PySem.Calls PyProof.Rows
set_option maxRecDepth 100000 in
set_option maxHeartbeats 0 in
theorem PySem.Challenge.cw_nearfields_k04_hulls_holds : PySem.Challenge.rw_nearfields_k04_hulls.Holds := by
  w_on; o_law
  refine HandSHeadRun.head_any (r := OpenLaw.row PySem.Challenge.rw_nearfields_k04_hulls) (q := view (OpenLaw.row PySem.Challenge.rw_nearfields_k04_hulls).prog [22]) (H := G_k04.hk) (ob := G_k04.ob) (M := 9000) (loose := G_k04.lo) (d := HandSHeadRun.topDef (OpenLaw.row PySem.Challenge.rw_nearfields_k04_hulls).prog 22) (kwd := []) G_k04.ob_eq
    (by kernel_rfl) (fun s => by kernel_rfl) G_k04.run (by kernel_rfl) (by kernel_rfl) (by kernel_rfl) (by rfl) (by first | assumption | decide +kernel) (by decide +kernel) ⟨rfl, rfl, rfl, rfl, rfl, by decide +kernel⟩ ?hw ?hc
  case hw => w_witness2
  case hc =>
    refine LamX.walk_ofTsE (l := PySem.Challenge.rw_nearfields_k04_hulls) (n := 63) (k := 6) (x := "_law_script") (CX := fun _ => L2.CX0) rfl (by decide) (by kernel_rfl) ⟨rfl, by decide, by decide⟩ ?F (fun _ _ _ _ _ z => z)
    intro w mg fa h Y G hmg0
    obtain ⟨K, KX, c⟩ := Y
    have hmg : mg ("law" : PySem.Str) = some (.ref fa) := by
      have e : (HandSHeadRun.topDef (OpenLaw.row PySem.Challenge.rw_nearfields_k04_hulls).prog 22).name = ("law" : PySem.Str) := by kernel_rfl
      rw [← e]
      exact hmg0
    letI tb : T.Tb := ⟨[((He.cT K ("in_order", none)).2, G_k04.lamN)]⟩
    obtain ⟨fd, hb, hF⟩ := G_k04.facts (P := (PySem.Challenge.rw_nearfields_k04_hulls).prog) (w := w) KX G hmg c.t.d c.more rfl
    have one : ∀ p ∈ [He.cT K ("in_order", none)], p = He.cT K ("in_order", none) := fun p hp => List.mem_singleton.mp hp
    have mem : (("in_order", none) : He.Defn) ∈ G_k04.tf := List.mem_singleton.mpr rfl
    exact ⟨K, KX, fd, [He.cT K ("in_order", none)], _, fun p hp => by rw [one p hp]; exact c.empty _ mem, fun p hp => by rw [one p hp]; exact c.out _ mem, fun p hp => by rw [one p hp]; exact PySem.W.codeHd_of_K KX (c.hd _ mem), hb,
      fun H a ns hl _ hH hS => T.law_sp G_k04.law_true hl hS (fun p hp => by
        rw [List.mem_singleton.mp hp]
        exact LamX.TabS.nil (hH _ (List.mem_singleton.mpr rfl))), fun base kb nb tbs => hF base kb nb (tbs _ (List.mem_singleton.mpr rfl))⟩
#print axioms PySem.Challenge.cw_nearfields_k04_hulls_holds
