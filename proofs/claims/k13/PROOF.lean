import PyProof.Rows.All
import Wide.All
import OpenK.AllK
import Wide.FinOn
import KE.KStateDown
import HandS.ForMost
import HandS.Defaults
import HandS.Wide
import HandS.Evl
import HandS.Lambda
import HandS.Deep
import HandS.NoneIn
import HandS.ForExc
import HandS.ExcIs
import HandS.Head0
import HandS.Head1
import HandS.Head2
import HandS.HeadEnd
import HandS.HeadHook1
import HandS.HeadHook2
import HandS.IsInst
import KE.SortKeyHeap
import HandS.SortKw
import HandS.Conv
import HandS.HeadHook4
import KE.SortData
import KE.DataMinMax
import HandS.TupSets
import HandS.Rev
import HandS.TupAny
import KE.KIndexOf
import HandS.Dict
import HandS.TupLen
import HandS.Iter
import HandS.Walk
import HandS.Zip
import HandS.Style
import KE.KDictSum
import PyProof.DictMoreH
import HandS.DictTup
import HandS.DictSubView
import HandS.HeadWalk
import HandS.EndTab
import PySem.Challenge.RW_nearfields_k13_whole_nearest_found
set_option Elab.async false
set_option linter.all false
set_option maxRecDepth 100000
set_option maxHeartbeats 4000000
set_option exponentiation.threshold 1000
/-! A typed layer over HandS: worlds (what is settled, what stands), values of plain Lean types, expressions and blocks that compute an Option of a plain value. -/
namespace T
open PySem PySem.Spec PyProof.Rows L2
open Evl (Ex)

/-! ### worlds -/
/-- the tables of code objects that are known, with the name that their code objects bear -/
class Tb where
  T : List (Addr × Str)
section
variable [Tb]
def isTb : HO → Bool
  | .tbl _ => true
  | _ => false
/-- what one may change: no table, no code object, no tuple -/
def isPl : HO → Bool
  | .tbl _ => false
  | .ext _ => false
  | .tup _ => false
  | _ => true
theorem tb_of_pl {o : HO} (h : isPl o = true) : isTb o = false := by cases o <;> first | rfl | cases h
/-- all but the tables stays -/
def Eh (H H' : Hp) : Prop := ∀ p o, H p = some o → isTb o = false → H' p = some o
theorem Eh.refl (H : Hp) : Eh H H := fun _ _ h _ => h
theorem Eh.trans {a b c : Hp} (x : Eh a b) (y : Eh b c) : Eh a c := fun p o h n => y p o (x p o h n) n
theorem Eh.of {a b : Hp} (e : Ex a b) : Eh a b := fun p o h _ => e p o h
/-- nothing stands at p but a table, perhaps -/
def fre (H : Hp) (p : Addr) : Prop := ∀ o, H p = some o → isTb o = true
theorem fre_of {H : Hp} {p : Addr} (h : H p = none) : fre H p := fun o e => by rw [h] at e; cases e
theorem Eh.back {H H' : Hp} (e : Eh H H') {p : Addr} (h : fre H' p) : fre H p := fun o q => by
  cases z : isTb o with
  | true => rfl
  | false => rw [← z]; exact h o (e p o q z)
theorem fre_no {H : Hp} {p : Addr} {o : HO} (h : fre H p) (e : H p = some o) (n : isTb o = false) : False := by
  have := h o e
  rw [n] at this
  cases this
/-- s: what no one changes any more; h: all that is tracked -/
structure Wd where
  s : Hp
  h : Hp
  e : Ex s h
  nt : ∀ p o, s p = some o → isTb o = false
  tb : LamX.Tabs Tb.T h
structure Wd.Le (a b : Wd) : Prop where
  s : Ex a.s b.s
  h : Eh a.h b.h
  f : ∀ p o, a.h p = some o → isPl o = true → a.s p = none → b.s p = none
theorem Wd.Le.refl (a : Wd) : a.Le a := ⟨Ex.refl _, Eh.refl _, fun _ _ _ _ h => h⟩
theorem ne_none_of {H : Hp} {p : Addr} {o : HO} (h : H p = some o) : H p ≠ none := by rw [h]; exact fun z => by cases z
theorem ex_ne {H H' : Hp} (e : Ex H H') {p : Addr} (h : H p ≠ none) : H' p ≠ none := by
  cases q : H p with
  | none => exact absurd q h
  | some o => exact ne_none_of (e p o q)
theorem ex_back {H H' : Hp} (e : Ex H H') {p : Addr} (h : H' p = none) : H p = none := Evl.fresh_back e h
theorem Wd.Le.trans {a b c : Wd} (x : a.Le b) (y : b.Le c) : a.Le c :=
  ⟨x.s.trans y.s, x.h.trans y.h, fun p o h1 n h2 => y.f p o (x.h p o h1 (tb_of_pl n)) n (x.f p o h1 n h2)⟩
theorem Wd.fs (W : Wd) {p : Addr} (h : fre W.h p) : W.s p = none := by
  cases q : W.s p with
  | none => rfl
  | some o => exact (fre_no h (W.e p o q) (W.nt p o q)).elim
theorem tabs_ex {H H' : Hp} (t : LamX.Tabs Tb.T H) (e : ∀ p o, H p = some o → isPl o = false → H' p = some o) : LamX.Tabs Tb.T H' := fun p hp => by
  obtain ⟨ps, h1, h2, h3⟩ := t p hp
  refine ⟨ps, e _ _ h1 rfl, h2, fun pos cv hc => ?_⟩
  obtain ⟨c, e1, e2⟩ := h3 pos cv hc
  exact ⟨c, e1, e _ _ e2 rfl⟩
/-- a new object, settled -/
def Wd.new (W : Wd) (p : Addr) (o : HO) (hp : W.h p = none) (ho : isTb o = false := by rfl) : Wd := ⟨upd W.s p o, upd W.h p o, fun a u h => by
  by_cases e : a = p
  · subst e
    rw [upd_same] at h ⊢
    exact h
  · rw [upd_ne e] at h ⊢
    exact W.e a u h, fun a u h => by
  by_cases e : a = p
  · subst e
    rw [upd_same] at h
    cases h
    exact ho
  · rw [upd_ne e] at h
    exact W.nt a u h, tabs_ex W.tb fun q u h _ => Ex.new hp q u h⟩
theorem Wd.Le.new (W : Wd) {p : Addr} (o : HO) (h : W.h p = none) (ho : isTb o = false := by rfl) : W.Le (W.new p o h ho) :=
  ⟨Ex.new (ex_back W.e h), Eh.of (Ex.new h), fun q u h1 _ h2 => by
    show upd W.s p o q = none
    rw [upd_ne (fun z => by rw [z, h] at h1; cases h1)]
    exact h2⟩
/-- an object that is not settled is written anew -/
def Wd.upH (W : Wd) (l : Addr) (ob : HO) (n : W.s l = none) (old : ∀ o, W.h l = some o → isPl o = true) : Wd := ⟨W.s, upd W.h l ob, fun q o hq => by
  rw [upd_ne (fun z => by subst z; rw [n] at hq; cases hq)]
  exact W.e q o hq, W.nt, tabs_ex W.tb fun q u h hu => by
  rw [upd_ne (fun z => by subst z; rw [old u h] at hu; cases hu)]
  exact h⟩
/-- an object is settled -/
def Wd.settle (W : Wd) (l : Addr) (o : HO) (hh : W.h l = some o) (ho : isTb o = false) : Wd := ⟨upd W.s l o, W.h, fun p u q => by
  by_cases hp : p = l
  · subst hp
    rw [upd_same] at q
    cases q
    exact hh
  · rw [upd_ne hp] at q
    exact W.e p u q, fun p u q => by
  by_cases hp : p = l
  · subst hp
    rw [upd_same] at q
    cases q
    exact ho
  · rw [upd_ne hp] at q
    exact W.nt p u q, W.tb⟩
/-- an object is settled no more -/
def unS (H : Hp) (p : Addr) : Hp := fun q => if q = p then none else H q
theorem unS_some {H : Hp} {p q : Addr} {o : HO} (h : unS H p q = some o) : H q = some o := by
  unfold unS at h
  by_cases hq : q = p
  · rw [if_pos hq] at h
    cases h
  · rw [if_neg hq] at h
    exact h
def Wd.unset (W : Wd) (p : Addr) : Wd := ⟨unS W.s p, W.h, fun q o h => W.e q o (unS_some h), fun q o h => W.nt q o (unS_some h), W.tb⟩

end
/-! ### plain values -/
class Rep (α : Type) where
  rel : PySem.W.Frag → Hp → V → α → Prop
  mono : ∀ {K : PySem.W.Frag} {H H' : Hp} {v : V} {a : α}, Ex H H' → rel K H v a → rel K H' v a
open Rep (rel)
instance : Rep Int := ⟨fun _ _ v a => v = .int a, fun _ h => h⟩
instance : Rep Bool := ⟨fun _ _ v a => v = .bl a, fun _ h => h⟩
instance : Rep Str := ⟨fun _ _ v a => v = .str a, fun _ h => h⟩
instance : Rep Unit := ⟨fun _ _ v _ => v = .non, fun _ h => h⟩
instance {α β : Type} [Rep α] [Rep β] : Rep (α × β) := ⟨fun K H v a => ∃ p x y, v = .ref p ∧ H p = some (.tup [x, y]) ∧ rel K H x a.1 ∧ rel K H y a.2,
  fun e ⟨p, x, y, h1, h2, h3, h4⟩ => ⟨p, x, y, h1, e _ _ h2, Rep.mono e h3, Rep.mono e h4⟩⟩
/-- three whole numbers in a tuple -/
structure Tri where
  a : Int
  b : Int
  c : Int
  deriving DecidableEq
/-- a tuple whose object is known, without a dict -/
def FT (H : Hp) (p : Addr) (xs : List V) : Prop := ∃ ob : Obj, H p = some (.frz ob (.tup xs)) ∧ ob.dict = none
theorem FT.mono {H H' : Hp} {p : Addr} {xs : List V} (h : FT H p xs) (e : Ex H H') : FT H' p xs := by
  obtain ⟨ob, h1, h2⟩ := h
  exact ⟨ob, e _ _ h1, h2⟩
theorem FT.sq {K : PySem.W.Frag} {H : Hp} {p : Addr} {xs : List V} (h : FT H p xs) : SqT K H p xs := by
  obtain ⟨ob, h1, _⟩ := h
  exact .inl (.inr ⟨ob, h1⟩)
instance : Rep Tri := ⟨fun _ H v t => ∃ p, v = .ref p ∧ FT H p [.int t.a, .int t.b, .int t.c], fun e ⟨p, h1, h2⟩ => ⟨p, h1, h2.mono e⟩⟩
theorem pmono {α β : Type} {F G : α → β → Prop} (f : ∀ a b, F a b → G a b) : ∀ {l₁ : List α} {l₂ : List β}, Paired F l₁ l₂ → Paired G l₁ l₂
  | _, _, .nil => .nil
  | _, _, .cons r t => .cons (f _ _ r) (pmono f t)
instance {α : Type} [Rep α] : Rep (List α) := ⟨fun K H v xs => ∃ p vs, v = .ref p ∧ H p = some (.lst vs) ∧ Paired (fun v x => rel K H v x) vs xs,
  fun e ⟨p, vs, h1, h2, h3⟩ => ⟨p, vs, h1, e _ _ h2, pmono (fun _ _ h => Rep.mono e h) h3⟩⟩
instance {α : Type} [Rep α] : Rep (Option α) := ⟨fun K H v o => match o with
  | none => v = .non
  | some a => rel K H v a, fun {K H H' v a} e h => by
    cases a with
    | none => exact h
    | some a => exact Rep.mono (α := α) e h⟩
/-- the script: a list that is read alone -/
structure Script where
  ns : List Int
instance : Rep Script := ⟨fun K H v s => ∃ p, v = .ref p ∧ SqL K H p (s.ns.map V.int), fun e ⟨p, h1, h2⟩ => ⟨p, h1, Evl.ex_l e h2⟩⟩
/-- values that lean on no list and no dict -/
class Flat (α : Type) extends Rep α where
  minus : ∀ {K : PySem.W.Frag} {H H' : Hp} {v : V} {a : α}, (∀ p o, H p = some o → (∀ xs, o ≠ .lst xs) → H' p = some o) → rel K H v a → rel K H' v a
instance : Flat Int where
  minus := fun _ h => h
instance : Flat Bool where
  minus := fun _ h => h
instance : Flat Str where
  minus := fun _ h => h
instance : Flat Unit where
  minus := fun _ h => h
instance {α β : Type} [Flat α] [Flat β] : Flat (α × β) where
  minus := fun m h => by
    obtain ⟨p, x, y, h1, h2, h3, h4⟩ := h
    exact ⟨p, x, y, h1, m _ _ h2 (fun xs z => by cases z), Flat.minus m h3, Flat.minus m h4⟩
instance : Flat Tri where
  minus := fun m h => by
    obtain ⟨p, h1, ob, h2, h3⟩ := h
    exact ⟨p, h1, ob, m _ _ h2 (fun xs z => by cases z), h3⟩

/-- objects that are still changed -/
class MRep (α : Type) where
  orel : PySem.W.Frag → Hp → Addr → HO → α → Prop
  mono : ∀ {K : PySem.W.Frag} {H H' : Hp} {l : Addr} {o : HO} {a : α}, Ex H H' → orel K H l o a → orel K H' l o a
  nt : ∀ {K : PySem.W.Frag} {H : Hp} {l : Addr} {o : HO} {a : α}, orel K H l o a → isPl o = true
structure ML (α : Type) where
  xs : List α
instance {α : Type} [Rep α] : MRep (ML α) := ⟨fun K H _ o m => ∃ vs, o = .lst vs ∧ Paired (fun v x => rel K H v x) vs m.xs, fun e ⟨vs, h1, h2⟩ => ⟨vs, h1, pmono (fun _ _ h => Rep.mono e h) h2⟩, fun ⟨vs, h1, _⟩ => by rw [h1]; rfl⟩

variable [Tb]
/-! ### slots -/
inductive SV : Type 1
  | any
  | imm {α : Type} [r : Rep α] (a : α)
  | mut {α : Type} [r : MRep α] (a : α)
def SV.isMut : SV → Prop
  | @SV.mut _ _ _ => True
  | _ => False
def SV.sat (K : PySem.W.Frag) (We W : Wd) : SV → Option (Option V) → Prop
  | .any, _ => True
  | @SV.imm _ r a, o => ∃ v, o = some (some v) ∧ r.rel K W.s v a
  | @SV.mut _ r a, o => ∃ (l : Addr) (ob : HO), o = some (some (V.ref l)) ∧ fre We.h l ∧ W.s l = none ∧ W.h l = some ob ∧ r.orel K W.s l ob a
structure SR (K : PySem.W.Frag) (We : Wd) (B : Hp) (ρ : List SV) (σ : L2.St) (W : Wd) : Prop where
  le : We.Le W
  b : Ex B W.s
  len : σ.length = ρ.length
  at_ : ∀ (i : Nat) (x : SV), ρ[i]? = some x → x.sat K We W σ[i]?
  sep : ∀ (i j : Nat) (x y : SV) (l : Addr), i ≠ j → ρ[i]? = some x → ρ[j]? = some y → x.isMut → y.isMut → σ[i]? = some (some (.ref l)) → σ[j]? = some (some (.ref l)) → False
section
variable {K : PySem.W.Frag} {We W W' : Wd} {B : Hp} {ρ : List SV} {σ : L2.St}
theorem SV.sat_mono {x : SV} {o : Option (Option V)} (h : x.sat K We W o) (le : W.Le W') : x.sat K We W' o := by
  match x, h with
  | .any, _ => trivial
  | @SV.imm _ i a, ⟨v, e, r⟩ => exact ⟨v, e, i.mono le.s r⟩
  | @SV.mut _ i a, ⟨l, ob, e, n, s, hh, r⟩ => exact ⟨l, ob, e, n, le.f l ob hh (i.nt r) s, le.h _ _ hh (tb_of_pl (i.nt r)), i.mono le.s r⟩
theorem SR.mono (S : SR K We B ρ σ W) (le : W.Le W') : SR K We B ρ σ W' :=
  ⟨S.le.trans le, S.b.trans le.s, S.len, fun i x h => SV.sat_mono (S.at_ i x h) le, S.sep⟩
theorem SR.imm {α : Type} [Rep α] {i : Nat} {a : α} (S : SR K We B ρ σ W) (h : ρ[i]? = some (.imm a)) : ∃ v, σ[i]? = some (some v) ∧ rel K W.s v a := S.at_ i _ h
theorem SR.rebase {B' : Hp} (S : SR K We B ρ σ W) (h : Ex B' W.s) : SR K We B' ρ σ W := ⟨S.le, h, S.len, S.at_, S.sep⟩
theorem get_set_cases {α : Type _} {l : List α} {i j : Nat} {a x : α} (h : (l.set i a)[j]? = some x) : (j = i ∧ x = a ∧ i < l.length) ∨ (j ≠ i ∧ l[j]? = some x) := by
  by_cases e : i = j
  · subst e
    rw [List.getElem?_set] at h
    simp only [if_true] at h
    split at h
    · rename_i hl
      exact .inl ⟨rfl, (Option.some.inj h).symm, hl⟩
    · cases h
  · rw [List.getElem?_set_ne e] at h
    exact .inr ⟨fun z => e z.symm, h⟩
/-- a slot that now holds a settled value, or anything -/
theorem SR.put (S : SR K We B ρ σ W) (le : W.Le W') {i : Nat} {x : SV} {o : Option V} (nm : ¬ x.isMut) (hx : i < ρ.length → x.sat K We W' (some o)) : SR K We B (ρ.set i x) (σ.set i o) W' := by
  have S' := S.mono le
  refine ⟨S'.le, S'.b, by rw [List.length_set, List.length_set]; exact S.len, fun j y h => ?_, fun j k y z l hjk hj hk mj mk ej ek => ?_⟩
  · rcases get_set_cases h with ⟨rfl, rfl, hl⟩ | ⟨hne, h2⟩
    · rw [List.getElem?_set_self (by rw [S.len]; exact hl)]
      exact hx hl
    · rw [List.getElem?_set_ne (fun z => hne z.symm)]
      exact S'.at_ j y h2
  · rcases get_set_cases hj with ⟨rfl, rfl, hl⟩ | ⟨hne, h2⟩
    · exact nm mj
    · rcases get_set_cases hk with ⟨rfl, rfl, hl⟩ | ⟨hne', h3⟩
      · exact nm mk
      · rw [List.getElem?_set_ne (fun z => hne z.symm)] at ej
        rw [List.getElem?_set_ne (fun z => hne' z.symm)] at ek
        exact S.sep j k y z l hjk h2 h3 mj mk ej ek
theorem SR.set {α : Type} [Rep α] (S : SR K We B ρ σ W) (le : W.Le W') {i : Nat} {v : V} {a : α} (r : rel K W'.s v a) : SR K We B (ρ.set i (.imm a)) (σ.set i (some v)) W' :=
  S.put le (fun z => z) fun _ => ⟨v, rfl, r⟩
theorem SR.setAny (S : SR K We B ρ σ W) (le : W.Le W') {i : Nat} {o : Option V} : SR K We B (ρ.set i .any) (σ.set i o) W' := S.put le (fun z => z) fun _ => trivial
/-- weaker slots -/
def SV.le : SV → SV → Prop
  | _, .any => True
  | x, y => x = y
inductive Wk : List SV → List SV → Prop
  | nil : Wk [] []
  | same {x : SV} {xs ys : List SV} : Wk xs ys → Wk (x :: xs) (x :: ys)
  | any {x : SV} {xs ys : List SV} : Wk xs ys → Wk (x :: xs) (.any :: ys)
theorem Wk.len {a b : List SV} (h : Wk a b) : a.length = b.length := by
  induction h with
  | nil => rfl
  | same _ ih => exact congrArg Nat.succ ih
  | any _ ih => exact congrArg Nat.succ ih
theorem Wk.get {a b : List SV} (h : Wk a b) : ∀ {i : Nat} {y : SV}, b[i]? = some y → y = .any ∨ a[i]? = some y := by
  induction h with
  | nil => intro i y e; simp at e
  | same _ ih =>
    intro i y e
    cases i with
    | zero => exact .inr e
    | succ i => exact ih (i := i) e
  | any _ ih =>
    intro i y e
    cases i with
    | zero => exact .inl (Option.some.inj e).symm
    | succ i => exact ih (i := i) e
theorem Wk.refl : ∀ a : List SV, Wk a a
  | [] => .nil
  | _ :: r => .same (Wk.refl r)
theorem SR.wk {ρ' : List SV} (S : SR K We B ρ σ W) (h : Wk ρ ρ') : SR K We B ρ' σ W := by
  refine ⟨S.le, S.b, S.len.trans h.len, fun i y e => ?_, fun j k y z l hjk hj hk mj mk ej ek => ?_⟩
  · rcases h.get e with rfl | e2
    · trivial
    · exact S.at_ i y e2
  · rcases h.get hj with rfl | e2
    · exact mj.elim
    · rcases h.get hk with rfl | e3
      · exact mk.elim
      · exact S.sep j k y z l hjk e2 e3 mj mk ej ek
end

/-! ### the weakest readings -/
section
variable {X : Cx}
abbrev RunE (X : Cx) (e : Expr) : TE := fun σ H Q => ∀ (pins : List (Addr × Obj)) (s : Shared), Inv X pins σ H s → wpAny (model X.prog X.w) X.A (eval e X.env) (EP X pins σ Q) X.xe s
abbrev RunT (X : Cx) (e : Expr) : TT := fun σ H Q => ∀ (pins : List (Addr × Obj)) (s : Shared), Inv X pins σ H s → wpAny (model X.prog X.w) X.A (isTrue e X.env (eval e X.env)) (TP X pins σ Q) X.xe s
abbrev RunW (X : Cx) (e : Expr) : TT := fun σ H Q => ∀ (whole : Sem Value) (pins : List (Addr × Obj)) (s : Shared), Inv X pins σ H s → wpAny (model X.prog X.w) X.A (isTrue e X.env whole) (TP X pins σ Q) X.xe s
abbrev RunS (X : Cx) (st : Stmt) : TS := fun D σ H => ∀ (pins : List (Addr × Obj)) (s : Shared), Inv X pins σ H s → wpAny (model X.prog X.w) X.A (exec st X.env) (SP X pins D) X.xe s
abbrev RunSs (X : Cx) (st : List Stmt) : TS := fun D σ H => ∀ (pins : List (Addr × Obj)) (s : Shared), Inv X pins σ H s → wpAny (model X.prog X.w) X.A (execs st X.env) (SP X pins D) X.xe s
theorem pe_run {e : Expr} : PE X e (RunE X e) := ⟨fun pins s _ _ _ I h => h pins s I⟩
theorem pt_run {e : Expr} : PT X e (RunT X e) := ⟨fun pins s _ _ _ I h => h pins s I⟩
theorem pw_run {e : Expr} : PW X e (RunW X e) := ⟨fun w pins s _ _ _ I h => h w pins s I⟩
theorem ps_run {st : Stmt} : PS X st (RunS X st) := ⟨fun pins s _ _ _ I h => h pins s I⟩
theorem pss_run {st : List Stmt} : PSs X st (RunSs X st) := ⟨fun pins s _ _ _ I h => h pins s I⟩
theorem useE {e : Expr} {t : TE} {σ : L2.St} {H : Hp} {Q : VK} (p : PE X e t) (h : t σ H Q) : RunE X e σ H Q := fun pins s I => p.run pins s σ H Q I h
theorem useT {e : Expr} {t : TT} {σ : L2.St} {H : Hp} {Q : Bool → Hp → Prop} (p : PT X e t) (h : t σ H Q) : RunT X e σ H Q := fun pins s I => p.run pins s σ H Q I h
theorem useW {e : Expr} {t : TT} {σ : L2.St} {H : Hp} {Q : Bool → Hp → Prop} (p : PW X e t) (h : t σ H Q) : RunW X e σ H Q := fun w pins s I => p.run w pins s σ H Q I h
theorem useS {st : Stmt} {t : TS} {σ : L2.St} {H : Hp} {D : Ends} (p : PS X st t) (h : t D σ H) : RunS X st D σ H := fun pins s I => p.run pins s σ H D I h
theorem useSs {st : List Stmt} {t : TS} {σ : L2.St} {H : Hp} {D : Ends} (p : PSs X st t) (h : t D σ H) : RunSs X st D σ H := fun pins s I => p.run pins s σ H D I h
end

/-! ### expressions -/
/-- e computes o, where o is some -/
structure Ep (X : Cx) (ρ : List SV) (e : Expr) {α : Type} [Rep α] (o : Option α) : Prop where
  run : ∀ a, o = some a → ∀ (We : Wd) (B : Hp) (σ : L2.St) (W : Wd) (Q : VK), SR X.K We B ρ σ W → (∀ v W', W.Le W' → rel X.K W'.s v a → Q v W'.h) → RunE X e σ W.h Q
/-- .. a new list -/
structure EpF (X : Cx) (ρ : List SV) (e : Expr) {α : Type} [Rep α] (o : Option (List α)) : Prop where
  run : ∀ a, o = some a → ∀ (We : Wd) (B : Hp) (σ : L2.St) (W : Wd) (Q : VK), SR X.K We B ρ σ W → (∀ p vs W', W.Le W' → fre W.h p → W'.s p = some (.lst vs) → Paired (fun v x => rel X.K W'.s v x) vs a → Q (.ref p) W'.h) → RunE X e σ W.h Q
/-- .. a list that may be read (settled or not) -/
structure Lp (X : Cx) (ρ : List SV) (e : Expr) {α : Type} [Rep α] (o : Option (List α)) : Prop where
  run : ∀ a, o = some a → ∀ (We : Wd) (B : Hp) (σ : L2.St) (W : Wd) (Q : VK), SR X.K We B ρ σ W → (∀ p vs W', W.Le W' → W'.h p = some (.lst vs) → Paired (fun v x => rel X.K W'.s v x) vs a → Q (.ref p) W'.h) → RunE X e σ W.h Q
/-- a test -/
structure Tp (X : Cx) (ρ : List SV) (e : Expr) (o : Option Bool) : Prop where
  run : ∀ a, o = some a → ∀ (We : Wd) (B : Hp) (σ : L2.St) (W : Wd) (Q : Bool → Hp → Prop), SR X.K We B ρ σ W → (∀ W', W.Le W' → Q a W'.h) → RunT X e σ W.h Q
structure Wp (X : Cx) (ρ : List SV) (e : Expr) (o : Option Bool) : Prop where
  run : ∀ a, o = some a → ∀ (We : Wd) (B : Hp) (σ : L2.St) (W : Wd) (Q : Bool → Hp → Prop), SR X.K We B ρ σ W → (∀ W', W.Le W' → Q a W'.h) → RunW X e σ W.h Q
section
variable {X : Cx} {ρ : List SV} {pos : Pos} {e a b c : Expr}
theorem EpF.ep {α : Type} [Rep α] {o : Option (List α)} (h : EpF X ρ e o) : Ep X ρ e o := .mk fun x hx We B σ W Q S k => h.run x hx We B σ W Q S fun p vs W' le _ hp r => k _ W' le ⟨p, vs, rfl, hp, r⟩
theorem Ep.lp {α : Type} [Rep α] {o : Option (List α)} (h : Ep X ρ e o) : Lp X ρ e o := .mk fun x hx We B σ W Q S k => h.run x hx We B σ W Q S fun v W' le ⟨p, vs, e1, e2, r⟩ => by
  subst e1
  exact k p vs W' le (W'.e _ _ e2) r
theorem EpF.lp {α : Type} [Rep α] {o : Option (List α)} (h : EpF X ρ e o) : Lp X ρ e o := h.ep.lp
theorem Ep.of_eq {α : Type} [Rep α] {o o' : Option α} (h : Ep X ρ e o) (q : o' = o) : Ep X ρ e o' := by rw [q]; exact h

theorem ep_var {α : Type} [Rep α] (i : Nat) {x : Str} {p : α} (hρ : ρ[i]? = some (.imm p) := by rfl) (hN : X.N[i]? = some x := by rfl) (hv : Vis X.env.scope x := by first | exact Or.inl rfl | exact Or.inr (Or.inl rfl) | exact Or.inr (Or.inr rfl)) (hd : (x == ("__debug__" : Str)) = false := by decide)
    (hcd : (x == ("__classdict__" : Str)) = false := by decide) : Ep X ρ (.Name x pos) (some p) := .mk fun y hy We B σ W Q S k => by
  cases hy
  obtain ⟨v, hv1, hv2⟩ := S.imm hρ
  exact useE (pe_var hN hv hd hcd) ⟨v, hv1, k v W (.refl W) hv2⟩
/-- a list that is still changed, read -/
theorem lp_var {α : Type} [Rep α] (i : Nat) {x : Str} {m : ML α} (hρ : ρ[i]? = some (.mut m) := by rfl) (hN : X.N[i]? = some x := by rfl) (hv : Vis X.env.scope x := by first | exact Or.inl rfl | exact Or.inr (Or.inl rfl) | exact Or.inr (Or.inr rfl)) (hd : (x == ("__debug__" : Str)) = false := by decide)
    (hcd : (x == ("__classdict__" : Str)) = false := by decide) : Lp X ρ (.Name x pos) (some m.xs) := .mk fun y hy We B σ W Q S k => by
  cases hy
  obtain ⟨l, ob, e1, _, _, hh, vs, rfl, r⟩ := S.at_ i _ hρ
  exact useE (pe_var hN hv hd hcd) ⟨_, e1, k l vs W (.refl W) hh r⟩
theorem ep_int {i : Int} {j} : Ep X ρ (.Constant (.int i) j pos) (some i) := .mk fun y hy We B σ W Q S k => by
  cases hy
  exact useE pe_int (k _ W (.refl W) rfl)
theorem ep_bl {i : Bool} {j} : Ep X ρ (.Constant (.bool i) j pos) (some i) := .mk fun y hy We B σ W Q S k => by
  cases hy
  exact useE pe_bl (k _ W (.refl W) rfl)
theorem ep_non {j} : Ep X ρ (.Constant .none j pos) (some ()) := .mk fun y hy We B σ W Q S k => by
  cases hy
  exact useE pe_non (k _ W (.refl W) rfl)
theorem ep_str {x : Str} {j} : Ep X ρ (.Constant (.str x) j pos) (some x) := .mk fun y hy We B σ W Q S k => by
  cases hy
  exact useE pe_str (k _ W (.refl W) rfl)
/-- as an Option -/
theorem Ep.opt {α : Type} [Rep α] {o : Option α} (h : Ep X ρ e o) : Ep X ρ e (o.map some) := .mk fun y hy We B σ W Q S k => by
  cases o with
  | none => cases hy
  | some a =>
    cases hy
    exact h.run a rfl We B σ W Q S k
theorem ep_nonO {α : Type} [Rep α] {j} : Ep X ρ (.Constant .none j pos) (some (none : Option α)) := .mk fun y hy We B σ W Q S k => by
  cases hy
  exact useE pe_non (k _ W (.refl W) rfl)

/-! operators -/
def bind2 {α β γ : Type} (oa : Option α) (ob : Option β) (f : α → β → Option γ) : Option γ := oa.bind fun x => ob.bind fun y => f x y
theorem bind_some {α : Type _} {γ : Type _} {oa : Option α} {f : α → Option γ} {z : γ} (h : oa.bind f = some z) : ∃ x, oa = some x ∧ f x = some z := by
  cases oa with
  | none => cases h
  | some x => exact ⟨x, rfl, h⟩
theorem bind2_some {α β γ : Type} {oa : Option α} {ob : Option β} {f : α → β → Option γ} {z : γ} (h : bind2 oa ob f = some z) : ∃ x y, oa = some x ∧ ob = some y ∧ f x y = some z := by
  obtain ⟨x, hx, h⟩ := bind_some h
  obtain ⟨y, hy, h⟩ := bind_some h
  exact ⟨x, y, hx, hy, h⟩
/-- what a rule by values must give -/
def OpV (X : Cx) (r : R2) {α β γ : Type} [Rep α] [Rep β] [Rep γ] (f : α → β → Option γ) : Prop :=
  ∀ x y z (W : Wd) v u (Q : VK), f x y = some z → rel X.K W.s v x → rel X.K W.s u y → (∀ v' W', W.Le W' → rel X.K W'.s v' z → Q v' W'.h) → r v u W.h Q
theorem ep_t2 {α β γ : Type} [Rep α] [Rep β] [Rep γ] {oa : Option α} {ob : Option β} {f : α → β → Option γ} {r : R2} {e : Expr} (p : PE X e (tOp r (RunE X a) (RunE X b))) (ha : Ep X ρ a oa) (hb : Ep X ρ b ob) (hr : OpV X r f) :
    Ep X ρ e (bind2 oa ob f) := .mk fun z hz We B σ W Q S k => by
  obtain ⟨x, y, hx, hy, hf⟩ := bind2_some hz
  refine useE p (ha.run x hx We B σ W _ S fun v W1 l1 r1 => hb.run y hy We B σ W1 _ (S.mono l1) fun u W2 l2 r2 => ?_)
  exact hr x y z W2 v u Q hf (Rep.mono l2.s r1) r2 fun v' W' l3 r3 => k v' W' ((l1.trans l2).trans l3) r3
theorem ep_bin {op : Operator} {α β γ : Type} [Rep α] [Rep β] [Rep γ] {oa : Option α} {ob : Option β} {f : α → β → Option γ} {r : R2} (ho : OpR X (binaryOp op) r) (hr : OpV X r f) (ha : Ep X ρ a oa) (hb : Ep X ρ b ob) :
    Ep X ρ (.BinOp a op b pos) (bind2 oa ob f) := ep_t2 (pe_op ho pe_run pe_run) ha hb hr
/-- a comparison, as a value and as a test -/
structure Cq (X : Cx) (ρ : List SV) (op : CmpOp) (a b : Expr) (o : Option Bool) : Prop where
  e : ∀ pos, Ep X ρ (.Compare a [op] [b] pos) o
  t : ∀ pos, Tp X ρ (.Compare a [op] [b] pos) o
theorem cq_mk {op : CmpOp} {α β : Type} [Rep α] [Rep β] {oa : Option α} {ob : Option β} {f : α → β → Option Bool} {r : R2} (ho : OpR X (compareOp op) r) (hm : behindInMarks op b = false) (hr : OpV X r f) (ha : Ep X ρ a oa) (hb : Ep X ρ b ob) :
    Cq X ρ op a b (bind2 oa ob f) := ⟨fun pos => ep_t2 (pe_cmpR ho pe_run pe_run hm) ha hb hr, fun pos => .mk fun z hz We B σ W Q S k => by
  obtain ⟨x, y, hx, hy, hf⟩ := bind2_some hz
  refine useT (pt_cmpR ho pe_run pe_run hm) (ha.run x hx We B σ W _ S fun v W1 l1 r1 => hb.run y hy We B σ W1 _ (S.mono l1) fun u W2 l2 r2 => ?_)
  exact hr x y z W2 v u _ hf (Rep.mono l2.s r1) r2 fun v' W' l3 r3 => ⟨z, r3, k W' ((l1.trans l2).trans l3)⟩⟩
theorem opv_I0 {g : Int → Int → Int} : OpV X (rI0 fun i j => .int (g i j)) (fun i j => some (g i j)) := fun x y z W v u Q hf h1 h2 k => by
  cases hf
  exact ⟨x, y, h1, h2, k _ W (.refl W) rfl⟩
theorem opv_B0 {g : Int → Int → Bool} : OpV X (rI0 fun i j => .bl (g i j)) (fun i j => some (g i j)) := fun x y z W v u Q hf h1 h2 k => by
  cases hf
  exact ⟨x, y, h1, h2, k _ W (.refl W) rfl⟩
theorem opv_I {C : Int → Int → Prop} {c : Int → Int → Bool} (hc : ∀ i j, c i j = true → C i j) {g : Int → Int → Int} : OpV X (rI C fun i j => .int (g i j)) (fun i j => if c i j then some (g i j) else none) := fun x y z W v u Q hf h1 h2 k => by
  dsimp only at hf
  split at hf
  · rename_i h
    cases hf
    exact ⟨x, y, h1, h2, hc _ _ h, k _ W (.refl W) rfl⟩
  · cases hf
def oadd (x y : Option Int) : Option Int := bind2 x y fun i j => some (i + j)
def osub (x y : Option Int) : Option Int := bind2 x y fun i j => some (i - j)
/-- numbers that are surely small enough to be multiplied -/
def smallI (i : Int) : Bool := decide (i.natAbs < 2 ^ 600)
def mulOk (i j : Int) : Bool := (decide (-(2 ^ 64) < i) && decide (i < 2 ^ 64)) || (decide (-(2 ^ 64) < j) && decide (j < 2 ^ 64)) || (smallI i && smallI j)
def omul (x y : Option Int) : Option Int := bind2 x y fun i j => if mulOk i j then some (i * j) else none
def divOk (_ j : Int) : Bool := decide (j ≠ 0) && smallI j
def ofdiv (x y : Option Int) : Option Int := bind2 x y fun i j => if divOk i j then some (i.fdiv j) else none
theorem op_fdivX : OpR X (binaryOp .FloorDiv) (rI (fun _ j => j ≠ 0 ∧ j.natAbs.log2 < 9000) fun i j => .int (i.fdiv j)) := opI fun _ _ _ _ _ _ _ hc q => floordiv_int hc.1 q (.inl (PyProof.noPylong_of_log2 hc.2))
def omod (x y : Option Int) : Option Int := bind2 x y fun i j => if decide (0 < j) then some (i % j) else none
def powOk (i j : Int) : Bool := decide (0 ≤ j) && decide (j ≤ 1000) && decide (i.natAbs < 2 ^ 64)
def opow (x y : Option Int) : Option Int := bind2 x y fun i j => if powOk i j then some (i ^ j.toNat) else none
theorem log_small {i : Int} (h : smallI i = true) : i.natAbs.log2 < 601 := by
  have h1 : i.natAbs < 2 ^ 600 := of_decide_eq_true h
  by_cases e : i.natAbs = 0
  · rw [e]
    decide
  · have := (Nat.log2_lt e).mpr h1
    omega
theorem mulOk_ok {i j : Int} (h : mulOk i j = true) : CMul i j ∨ CMulW i j := by
  unfold mulOk at h
  simp only [Bool.or_eq_true, Bool.and_eq_true, decide_eq_true_eq] at h
  rcases h with (h | h) | h
  · exact .inl (.inl h)
  · exact .inl (.inr h)
  · refine .inr ?_
    have h1 := log_small h.1
    have h2 := log_small h.2
    show i.natAbs.log2 + j.natAbs.log2 < 1000000
    omega
theorem opv_mul : OpV X (fun x y H Q => rI CMul (fun i j => .int (i * j)) x y H Q ∨ rI CMulW (fun i j => .int (i * j)) x y H Q) (fun i j => if mulOk i j then some (i * j) else none) := fun x y z W v u Q hf h1 h2 k => by
  dsimp only at hf
  split at hf
  · rename_i h
    cases hf
    rcases mulOk_ok h with hc | hc
    · exact .inl ⟨x, y, h1, h2, hc, k _ W (.refl W) rfl⟩
    · exact .inr ⟨x, y, h1, h2, hc, k _ W (.refl W) rfl⟩
  · cases hf
theorem ep_add {oa ob : Option Int} (ha : Ep X ρ a oa) (hb : Ep X ρ b ob) : Ep X ρ (.BinOp a .Add b pos) (oadd oa ob) := ep_bin op_add opv_I0 ha hb
theorem ep_sub {oa ob : Option Int} (ha : Ep X ρ a oa) (hb : Ep X ρ b ob) : Ep X ρ (.BinOp a .Sub b pos) (osub oa ob) := ep_bin op_sub opv_I0 ha hb
theorem ep_mul {oa ob : Option Int} (ha : Ep X ρ a oa) (hb : Ep X ρ b ob) : Ep X ρ (.BinOp a .Mult b pos) (omul oa ob) := ep_bin (OpR.or op_mul op_mulW) opv_mul ha hb
theorem ep_fdiv {oa ob : Option Int} (ha : Ep X ρ a oa) (hb : Ep X ρ b ob) : Ep X ρ (.BinOp a .FloorDiv b pos) (ofdiv oa ob) := ep_bin op_fdivX (opv_I fun i j h => by
  unfold divOk at h
  simp only [Bool.and_eq_true, decide_eq_true_eq] at h
  exact ⟨h.1, Nat.lt_trans (log_small h.2) (by decide)⟩) ha hb
theorem ep_mod {oa ob : Option Int} (ha : Ep X ρ a oa) (hb : Ep X ρ b ob) : Ep X ρ (.BinOp a .Mod b pos) (omod oa ob) := ep_bin op_mod (opv_I fun i j h => of_decide_eq_true h) ha hb
theorem ep_pow {oa ob : Option Int} (ha : Ep X ρ a oa) (hb : Ep X ρ b ob) : Ep X ρ (.BinOp a .Pow b pos) (opow oa ob) := ep_bin op_pow (opv_I fun i j h => by
  unfold powOk at h
  simp only [Bool.and_eq_true, decide_eq_true_eq] at h
  exact ⟨h.1.1, by omega, h.2⟩) ha hb
def oneg (x : Option Int) : Option Int := x.bind fun i => some (-i)
theorem ep_neg {oa : Option Int} (ha : Ep X ρ a oa) : Ep X ρ (.UnaryOp .USub a pos) (oneg oa) := .mk fun z hz We B σ W Q S k => by
  obtain ⟨x, hx, hf⟩ := bind_some hz
  cases hf
  refine useE (pe_un un_neg pe_run) (ha.run x hx We B σ W _ S fun v W1 l1 r1 => ⟨x, r1, k _ W1 l1 rfl⟩)
def olt (x y : Option Int) : Option Bool := bind2 x y fun i j => some (decide (i < j))
def ole (x y : Option Int) : Option Bool := bind2 x y fun i j => some (decide (i ≤ j))
def ogt (x y : Option Int) : Option Bool := bind2 x y fun i j => some (decide (j < i))
def oge (x y : Option Int) : Option Bool := bind2 x y fun i j => some (decide (j ≤ i))
theorem cq_lt {oa ob : Option Int} (ha : Ep X ρ a oa) (hb : Ep X ρ b ob) : Cq X ρ .Lt a b (olt oa ob) := cq_mk op_lt (nomark _) opv_B0 ha hb
theorem cq_le {oa ob : Option Int} (ha : Ep X ρ a oa) (hb : Ep X ρ b ob) : Cq X ρ .LtE a b (ole oa ob) := cq_mk op_le (nomark _) opv_B0 ha hb
theorem cq_gt {oa ob : Option Int} (ha : Ep X ρ a oa) (hb : Ep X ρ b ob) : Cq X ρ .Gt a b (ogt oa ob) := cq_mk op_gt (nomark _) opv_B0 ha hb
theorem cq_ge {oa ob : Option Int} (ha : Ep X ρ a oa) (hb : Ep X ρ b ob) : Cq X ρ .GtE a b (oge oa ob) := cq_mk op_ge (nomark _) opv_B0 ha hb
/-- == and != of flat things -/
class Sc (α : Type) extends Rep α where
  val : α → V
  is : ∀ {K : PySem.W.Frag} {H : Hp} {v : V} {a : α}, rel K H v a → v = val a
  inj : ∀ {a b : α}, val a = val b → a = b
  sc : ∀ a b : α, scal (val a) (val b) = true
instance : Sc Int := ⟨V.int, fun h => h, fun h => V.int.inj h, fun _ _ => rfl⟩
instance : Sc Bool := ⟨V.bl, fun h => h, fun h => V.bl.inj h, fun _ _ => rfl⟩
instance : Sc Str := ⟨V.str, fun h => h, fun h => V.str.inj h, fun _ _ => rfl⟩
def oeq {α : Type} [DecidableEq α] (x y : Option α) : Option Bool := bind2 x y fun i j => some (decide (i = j))
def one_ {α : Type} [DecidableEq α] (x y : Option α) : Option Bool := bind2 x y fun i j => some (!decide (i = j))
theorem dec_val {α : Type} [Sc α] [DecidableEq α] (x y : α) : decide (Sc.val x = Sc.val y) = decide (x = y) := by
  by_cases h : x = y
  · rw [decide_eq_true h, h, decide_eq_true rfl]
  · rw [decide_eq_false h, decide_eq_false fun z => h (Sc.inj z)]
theorem cq_eqS {α : Type} [Sc α] [DecidableEq α] {oa ob : Option α} (ha : Ep X ρ a oa) (hb : Ep X ρ b ob) : Cq X ρ .Eq a b (oeq oa ob) := cq_mk op_eq (nomark _) (fun x y z W v u Q hf h1 h2 k => by
  cases hf
  rw [Sc.is h1, Sc.is h2]
  exact ⟨Sc.sc x y, k _ W (.refl W) (by rw [dec_val] <;> rfl)⟩) ha hb
theorem cq_neS {α : Type} [Sc α] [DecidableEq α] {oa ob : Option α} (ha : Ep X ρ a oa) (hb : Ep X ρ b ob) : Cq X ρ .NotEq a b (one_ oa ob) := cq_mk op_ne (nomark _) (fun x y z W v u Q hf h1 h2 k => by
  cases hf
  rw [Sc.is h1, Sc.is h2]
  exact ⟨Sc.sc x y, k _ W (.refl W) (by rw [dec_val] <;> rfl)⟩) ha hb

/-! tests -/
theorem tp_val {o : Option Bool} (h : Ep X ρ e o) (he : ∀ whole, isTrue e X.env whole = (do let v ← whole; standAt e.pos; holding [v] (truthy v)) := by intro _; rfl) : Tp X ρ e o := .mk fun z hz We B σ W Q S k =>
  useT (pt_val pe_run he) (h.run z hz We B σ W _ S fun v W1 l1 r1 => ⟨z, r1, k W1 l1⟩)
def onot (x : Option Bool) : Option Bool := x.bind fun b => some (!b)
def oand (x y : Option Bool) : Option Bool := x.bind fun b => if b then y else some false
def oor (x y : Option Bool) : Option Bool := x.bind fun b => if b then some true else y
theorem tp_not {o : Option Bool} (h : Tp X ρ a o) : Tp X ρ (.UnaryOp .Not a pos) (onot o) := .mk fun z hz We B σ W Q S k => by
  obtain ⟨x, hx, hf⟩ := bind_some hz
  cases hf
  exact useT (pt_not pt_run) (h.run x hx We B σ W _ S fun W1 l1 => k W1 l1)
theorem tp_w {o : Option Bool} (h : Wp X ρ e o) : Tp X ρ e o := .mk fun z hz We B σ W Q S k => useT pw_run.pt (h.run z hz We B σ W Q S k)
theorem wp_and1 {o : Option Bool} (h : Tp X ρ a o) : Wp X ρ (.BoolOp .And [a] pos) o := .mk fun z hz We B σ W Q S k => useW (pw_and1 pt_run) (h.run z hz We B σ W Q S k)
theorem wp_or1 {o : Option Bool} (h : Tp X ρ a o) : Wp X ρ (.BoolOp .Or [a] pos) o := .mk fun z hz We B σ W Q S k => useW (pw_or1 pt_run) (h.run z hz We B σ W Q S k)
theorem wp_and {oa ob : Option Bool} {rest : List Expr} (ha : Tp X ρ a oa) (hb : Wp X ρ (.BoolOp .And (b :: rest) pos) ob) : Wp X ρ (.BoolOp .And (a :: b :: rest) pos) (oand oa ob) := .mk fun z hz We B σ W Q S k => by
  obtain ⟨x, hx, hf⟩ := bind_some hz
  refine useW (pw_and pt_run pw_run) (ha.run x hx We B σ W _ S fun W1 l1 => ?_)
  cases x with
  | true => exact iteT (hb.run z hf We B σ W1 Q (S.mono l1) fun W2 l2 => k W2 (l1.trans l2))
  | false =>
    cases hf
    exact iteF (k W1 l1)
theorem wp_or {oa ob : Option Bool} {rest : List Expr} (ha : Tp X ρ a oa) (hb : Wp X ρ (.BoolOp .Or (b :: rest) pos) ob) : Wp X ρ (.BoolOp .Or (a :: b :: rest) pos) (oor oa ob) := .mk fun z hz We B σ W Q S k => by
  obtain ⟨x, hx, hf⟩ := bind_some hz
  refine useW (pw_or pt_run pw_run) (ha.run x hx We B σ W _ S fun W1 l1 => ?_)
  cases x with
  | false => exact iteF (hb.run z hf We B σ W1 Q (S.mono l1) fun W2 l2 => k W2 (l1.trans l2))
  | true =>
    cases hf
    exact iteT (k W1 l1)
/-! the same as values -/
theorem ep_one {op} {o : Option Bool} (h : Ep X ρ a o) : Ep X ρ (.BoolOp op [a] pos) o := .mk fun z hz We B σ W Q S k => useE (pe_one pe_run) (h.run z hz We B σ W Q S k)
theorem ep_and {oa ob : Option Bool} {rest : List Expr} (ha : Ep X ρ a oa) (hb : Ep X ρ (.BoolOp .And (b :: rest) pos) ob) : Ep X ρ (.BoolOp .And (a :: b :: rest) pos) (oand oa ob) := .mk fun z hz We B σ W Q S k => by
  obtain ⟨x, hx, hf⟩ := bind_some hz
  refine useE (pe_and pe_run pe_run) (ha.run x hx We B σ W _ S fun v W1 l1 r1 => ⟨x, r1, ?_⟩)
  cases x with
  | true => exact iteT (hb.run z hf We B σ W1 Q (S.mono l1) fun v W2 l2 => k v W2 (l1.trans l2))
  | false =>
    cases hf
    exact iteF (k _ W1 l1 rfl)
theorem ep_or {oa ob : Option Bool} {rest : List Expr} (ha : Ep X ρ a oa) (hb : Ep X ρ (.BoolOp .Or (b :: rest) pos) ob) : Ep X ρ (.BoolOp .Or (a :: b :: rest) pos) (oor oa ob) := .mk fun z hz We B σ W Q S k => by
  obtain ⟨x, hx, hf⟩ := bind_some hz
  refine useE (pe_or pe_run pe_run) (ha.run x hx We B σ W _ S fun v W1 l1 r1 => ⟨x, r1, ?_⟩)
  cases x with
  | false => exact iteF (hb.run z hf We B σ W1 Q (S.mono l1) fun v W2 l2 => k v W2 (l1.trans l2))
  | true =>
    cases hf
    exact iteT (k _ W1 l1 rfl)
theorem ep_not {oa : Option Bool} (ha : Ep X ρ a oa) : Ep X ρ (.UnaryOp .Not a pos) (onot oa) := .mk fun z hz We B σ W Q S k => by
  obtain ⟨x, hx, hf⟩ := bind_some hz
  cases hf
  exact useE (pe_not pe_run) (ha.run x hx We B σ W _ S fun v W1 l1 r1 => ⟨x, r1, k _ W1 l1 rfl⟩)
end
end T
/-! typed layer, second part: tuples, lists, targets, blocks, loops, calls -/
namespace T
variable [Tb]
open PySem PySem.Spec PyProof.Rows L2
open Evl (Ex)
open Rep (rel)

section
variable {X : Cx} {ρ : List SV} {pos : Pos} {e a b c d : Expr}
/-- not starred -/
def NS (X : Cx) (e : Expr) : Prop := ∀ es, starEach (e :: es) X.env = (false, eval e X.env) :: starEach es X.env
/-! ### tuples -/
def omk2 {α β : Type} (x : Option α) (y : Option β) : Option (α × β) := bind2 x y fun i j => some (i, j)
theorem ep_pair {α β : Type} [Rep α] [Rep β] {oa : Option α} {ob : Option β} {x1} (ha : Ep X ρ a oa) (hb : Ep X ρ b ob) (na : NS X a := by intro _; rfl) (nb : NS X b := by intro _; rfl) : Ep X ρ (.Tuple [a, b] x1 pos) (omk2 oa ob) := .mk fun z hz We B σ W Q S k => by
  obtain ⟨x, y, hx, hy, hf⟩ := bind2_some hz
  cases hf
  refine useE (pe_tup (pa_cons pe_run (pa_cons pe_run pa_nil (nb _)) (na _))) (ha.run x hx We B σ W _ S fun v W1 l1 r1 => hb.run y hy We B σ W1 _ (S.mono l1) fun u W2 l2 r2 => ⟨(by show 2 ≤ sizeLine; decide), fun p hp => ?_⟩)
  have l3 := Wd.Le.new W2 (.tup [v, u]) hp
  exact k (.ref p) (W2.new p (.tup [v, u]) hp) ((l1.trans l2).trans l3) ⟨p, v, u, rfl, upd_same, Rep.mono l3.s (Rep.mono l2.s r1), Rep.mono l3.s r2⟩
def omk3 (x y z : Option Int) : Option Tri := x.bind fun i => y.bind fun j => z.bind fun k => some ⟨i, j, k⟩
/-- a display, its object known -/
theorem pe_tupF {es : List Expr} {t : TA} {x1} (h : PA X es t) : PE X (.Tuple es x1 pos) (fun σ H Q => t σ H fun xs H1 => xs.length ≤ sizeLine ∧ ∀ (p : Addr) (ob : Obj), ob.dict = none → H1 p = none → Q (.ref p) (upd H1 p (.frz ob (.tup xs)))) := by
  refine ⟨fun pins s σ H Q I hq => ?_⟩
  refine wpAny_Tuple_spliced (thn (h.run pos pins s σ H _ I hq) fun us s1 ⟨xs, H1, I1, r, z, q⟩ => ⟨by rw [← r.length]; exact z, ?_⟩)
  have fresh : H1 s1.heap.objs.size = none := I1.hok.fresh (Nat.le_refl _)
  refine ⟨.ref s1.heap.objs.size, upd H1 s1.heap.objs.size (.frz { cls := .type "tuple", data := .seq us.toArray } (.tup xs)), I1.laid (t' := s1.toks) (fun b u e => Heap.get?_push_of_some _ e) (Nat.le_refl _) ?_, rfl, q _ _ rfl fresh⟩
  exact ⟨Heap.get?_push_size _ rfl, z, us, r, ⟨_, Heap.get?_push_size _ rfl, rfl, _, rfl⟩⟩
theorem ep_tri {oa ob oc : Option Int} {x1} (ha : Ep X ρ a oa) (hb : Ep X ρ b ob) (hc : Ep X ρ c oc) (na : NS X a := by intro _; rfl) (nb : NS X b := by intro _; rfl) (nc : NS X c := by intro _; rfl) : Ep X ρ (.Tuple [a, b, c] x1 pos) (omk3 oa ob oc) := .mk fun z hz We B σ W Q S k => by
  obtain ⟨x, hx, hf⟩ := bind_some hz
  obtain ⟨y, hy, hf⟩ := bind_some hf
  obtain ⟨w, hw, hf⟩ := bind_some hf
  cases hf
  refine useE (pe_tupF (pa_cons pe_run (pa_cons pe_run (pa_cons pe_run pa_nil (nc _)) (nb _)) (na _))) (ha.run x hx We B σ W _ S fun v W1 l1 r1 => hb.run y hy We B σ W1 _ (S.mono l1) fun u W2 l2 r2 => hc.run w hw We B σ W2 _ (S.mono (l1.trans l2)) fun t W3 l3 r3 => ⟨(by show 3 ≤ sizeLine; decide), fun p ob hob hp => ?_⟩)
  have l4 := Wd.Le.new W3 (.frz ob (.tup [v, u, t])) hp
  cases r1
  cases r2
  cases r3
  exact k (.ref p) (W3.new p _ hp) (((l1.trans l2).trans l3).trans l4) ⟨p, rfl, ob, upd_same, hob⟩
theorem ix_tup_use {i : Int} {j} {σ : L2.St} {H : Hp} {Q : VK} (h : RunE X a σ H fun x H1 => ∃ p xs v, x = .ref p ∧ SqT X.K H1 p xs ∧ atI xs i = some v ∧ Q v H1) (hs : PlainIx (.Constant (.int i) j pos)) {pos' : Pos} : RunE X (.Subscript a (.Constant (.int i) j pos) pos') σ H Q :=
  useE (pe_ix ix_tup (⟨fun pins s σ H Q I h => h pins s I⟩ : PE X a (RunE X a)) pe_int hs) (fun pins s I => wpAny_mono (h pins s I) (fun u s' ⟨v, H', I', r, p, xs, w, e1, e2, e3, q⟩ => ⟨v, H', I', r, p, xs, i, w, e1, rfl, e2, e3, q⟩) fun _ _ z => z)
def ofst {α β : Type} (x : Option (α × β)) : Option α := x.bind fun p => some p.1
def osnd {α β : Type} (x : Option (α × β)) : Option β := x.bind fun p => some p.2
theorem ep_fst {α β : Type} [Rep α] [Rep β] {oa : Option (α × β)} {j} {p1 : Pos} (ha : Ep X ρ a oa) : Ep X ρ (.Subscript a (.Constant (.int 0) j p1) pos) (ofst oa) := .mk fun z hz We B σ W Q S k => by
  obtain ⟨x, hx, hf⟩ := bind_some hz
  cases hf
  refine ix_tup_use (ha.run x hx We B σ W _ S fun v W1 l1 ⟨p, y, w, e1, e2, r1, r2⟩ => ?_) (fun _ _ => rfl)
  exact ⟨p, [y, w], y, e1, .of (W1.e _ _ e2), rfl, k y W1 l1 r1⟩
theorem ep_snd {α β : Type} [Rep α] [Rep β] {oa : Option (α × β)} {j} {p1 : Pos} (ha : Ep X ρ a oa) : Ep X ρ (.Subscript a (.Constant (.int 1) j p1) pos) (osnd oa) := .mk fun z hz We B σ W Q S k => by
  obtain ⟨x, hx, hf⟩ := bind_some hz
  cases hf
  refine ix_tup_use (ha.run x hx We B σ W _ S fun v W1 l1 ⟨p, y, w, e1, e2, r1, r2⟩ => ?_) (fun _ _ => rfl)
  exact ⟨p, [y, w], w, e1, .of (W1.e _ _ e2), rfl, k w W1 l1 r2⟩
def otri (x : Option Tri) (i : Option Int) : Option Int := bind2 x i fun t i => atI [t.a, t.b, t.c] i
theorem atI_map {α β : Type} (f : α → β) (xs : List α) (i : Int) : atI (xs.map f) i = (atI xs i).map f := by
  unfold atI
  rw [List.length_map]
  cases ixN xs.length i with
  | none => rfl
  | some j =>
    show (xs.map f)[j]? = _
    rw [List.getElem?_map]
    rfl
theorem ep_trix {oa : Option Tri} {ob : Option Int} (ha : Ep X ρ a oa) (hb : Ep X ρ b ob) (hs : PlainIx b := by exact fun _ _ => rfl) : Ep X ρ (.Subscript a b pos) (otri oa ob) :=
  ep_t2 (pe_ix ix_tup pe_run pe_run hs) ha hb fun x y z W v u Q hf ⟨p, e1, e2⟩ h2 k => by
    cases h2
    refine ⟨p, _, y, V.int z, e1, rfl, (e2.mono W.e).sq, ?_, k _ W (.refl W) rfl⟩
    have h3 := atI_map V.int [x.a, x.b, x.c] y
    rw [hf] at h3
    exact h3

/-! ### lists -/
theorem pget {α β : Type} {F : α → β → Prop} : ∀ {l₁ : List α} {l₂ : List β} {j : Nat} {y : β}, Paired F l₁ l₂ → l₂[j]? = some y → ∃ x, l₁[j]? = some x ∧ F x y
  | _, _, j, y, .nil, h => by simp at h
  | _, _, 0, y, .cons r t, h => by
    simp at h
    subst h
    exact ⟨_, rfl, r⟩
  | _, _, j + 1, y, .cons r t, h => by
    obtain ⟨x, h1, h2⟩ := pget (j := j) (y := y) t (by simpa using h)
    exact ⟨x, by simpa using h1, h2⟩
theorem plen {α β : Type} {F : α → β → Prop} {l₁ : List α} {l₂ : List β} (h : Paired F l₁ l₂) : l₁.length = l₂.length := Paired.length h
theorem papp {α β : Type} {F : α → β → Prop} : ∀ {l₁ l₁' : List α} {l₂ l₂' : List β}, Paired F l₁ l₂ → Paired F l₁' l₂' → Paired F (l₁ ++ l₁') (l₂ ++ l₂')
  | _, _, _, _, .nil, s => s
  | _, _, _, _, .cons r t, s => .cons r (papp t s)
theorem ptake {α β : Type} {F : α → β → Prop} : ∀ {l₁ : List α} {l₂ : List β} (n : Nat), Paired F l₁ l₂ → Paired F (l₁.take n) (l₂.take n)
  | _, _, 0, _ => .nil
  | _, _, _ + 1, .nil => .nil
  | _, _, n + 1, .cons r t => .cons r (ptake n t)
theorem pdrop {α β : Type} {F : α → β → Prop} : ∀ {l₁ : List α} {l₂ : List β} (n : Nat), Paired F l₁ l₂ → Paired F (l₁.drop n) (l₂.drop n)
  | _, _, 0, r => r
  | _, _, _ + 1, .nil => .nil
  | _, _, n + 1, .cons _ t => pdrop n t
theorem prev {α β : Type} {F : α → β → Prop} : ∀ {l₁ : List α} {l₂ : List β}, Paired F l₁ l₂ → Paired F l₁.reverse l₂.reverse
  | _, _, .nil => .nil
  | _, _, .cons r t => by
    rw [List.reverse_cons, List.reverse_cons]
    exact papp (prev t) (.cons r .nil)
theorem pat {α β : Type} {F : α → β → Prop} {l₁ : List α} {l₂ : List β} {i : Int} {y : β} (h : Paired F l₁ l₂) (e : atI l₂ i = some y) : ∃ x, atI l₁ i = some x ∧ F x y := by
  unfold atI at e ⊢
  rw [plen h]
  obtain ⟨j, hj, e2⟩ := bind_some e
  obtain ⟨x, h1, h2⟩ := pget h e2
  exact ⟨x, by rw [hj]; exact h1, h2⟩
def oidx {α : Type} (x : Option (List α)) (i : Option Int) : Option α := bind2 x i fun xs i => atI xs i
theorem ep_idx {α : Type} [Rep α] {oa : Option (List α)} {ob : Option Int} (ha : Lp X ρ a oa) (hb : Ep X ρ b ob) (hs : PlainIx b := by exact fun _ _ => rfl) : Ep X ρ (.Subscript a b pos) (oidx oa ob) := .mk fun z hz We B σ W Q S k => by
  obtain ⟨x, y, hx, hy, hf⟩ := bind2_some hz
  refine useE (pe_ix ix_list pe_run pe_run hs) (ha.run x hx We B σ W _ S fun p vs W1 l1 hp r1 => hb.run y hy We B σ W1 _ (S.mono l1) fun u W2 l2 r2 => ?_)
  obtain ⟨v, hv, rv⟩ := pat r1 hf
  exact ⟨p, vs, y, v, rfl, r2, .of (l2.h _ _ hp rfl), hv, k v W2 (l1.trans l2) (Rep.mono l2.s rv)⟩
def olen {α : Type} (x : Option (List α)) : Option Int := x.bind fun xs => some xs.length
theorem ep_len {α : Type} [Rep α] {oa : Option (List α)} {p1 : Pos} (hg : Gl X "len") (hm : X.mg "len" = none) (ha : Lp X ρ a oa)
    (hst : NS X a := by intro _; rfl) : Ep X ρ (.Call (.Name "len" p1) [a] [] pos) (olen oa) := .mk fun z hz We B σ W Q S k => by
  obtain ⟨x, hx, hf⟩ := bind_some hz
  cases hf
  refine useE (pe_callB call_len_seq hg hm PySem.boot_len (pa_cons pe_run pa_nil (hst _)) (he := hst _)) (ha.run x hx We B σ W _ S fun p vs W1 l1 hp r1 => ?_)
  exact ⟨p, vs, rfl, .inl (.of hp), by rw [plen r1]; exact k _ W1 l1 rfl⟩
/-- sizes -/
def capOk (n : Nat) : Bool := decide (n ≤ 1000000)
theorem cap_line {n : Nat} (h : capOk n = true) : n ≤ sizeLine := Nat.le_trans (of_decide_eq_true h) (by decide)
theorem cap_lt {n : Nat} (h : capOk n = true) : n < sizeLine := Nat.lt_of_le_of_lt (of_decide_eq_true h) (by decide)
def cap {α : Type} (xs : List α) : Option (List α) := if capOk xs.length then some xs else none
theorem cap_some {α : Type} {xs ys : List α} (h : cap xs = some ys) : xs = ys ∧ capOk xs.length = true := by
  unfold cap at h
  split at h
  · rename_i hc
    cases h
    exact ⟨rfl, hc⟩
  · cases h
def ocat {α : Type} (x y : Option (List α)) : Option (List α) := bind2 x y fun a b => cap (a ++ b)
theorem ep_cat {α : Type} [Rep α] {oa ob : Option (List α)} (ha : Lp X ρ a oa) (hb : Lp X ρ b ob) : EpF X ρ (.BinOp a .Add b pos) (ocat oa ob) := .mk fun z hz We B σ W Q S k => by
  obtain ⟨x, y, hx, hy, hf⟩ := bind2_some hz
  obtain ⟨rfl, hc⟩ := cap_some hf
  refine useE (pe_op op_cat pe_run pe_run) (ha.run x hx We B σ W _ S fun p vs W1 l1 hp r1 => hb.run y hy We B σ W1 _ (S.mono l1) fun q us W2 l2 hq r2 => ?_)
  have r1' := pmono (fun _ _ h => Rep.mono l2.s h) r1
  refine ⟨p, q, vs, us, rfl, rfl, l2.h _ _ hp rfl, hq, ?_, fun n hn => ?_⟩
  · rw [plen r1, plen r2, ← List.length_append]
    exact cap_line hc
  · have l3 := Wd.Le.new W2 (.lst (vs ++ us)) hn
    exact k n (vs ++ us) (W2.new n (.lst (vs ++ us)) hn) ((l1.trans l2).trans l3) ((l1.trans l2).h.back (fre_of hn)) upd_same (pmono (fun _ _ h => Rep.mono l3.s h) (papp r1' r2))
/-- displays: items of one kind -/
abbrev RunA (X : Cx) (es : List Expr) : TA := fun σ H Q => ∀ (pos : Pos) (pins : List (Addr × Obj)) (s : Shared), Inv X pins σ H s → wpAny (model X.prog X.w) X.A (spliced (backTo pos (starEach es X.env))) (AP X pins σ Q) X.xe s
theorem pa_run {es : List Expr} : PA X es (RunA X es) := ⟨fun pos pins s _ _ _ I h => h pos pins s I⟩
theorem useA {es : List Expr} {t : TA} {σ : L2.St} {H : Hp} {Q : List V → Hp → Prop} (p : PA X es t) (h : t σ H Q) : RunA X es σ H Q := fun pos pins s I => p.run pos pins s σ H Q I h
structure Al (X : Cx) (ρ : List SV) (es : List Expr) {α : Type} [Rep α] (o : Option (List α)) : Prop where
  run : ∀ a, o = some a → a.length = es.length ∧ ∀ (We : Wd) (B : Hp) (σ : L2.St) (W : Wd) (Q : List V → Hp → Prop), SR X.K We B ρ σ W → (∀ vs W', W.Le W' → Paired (fun v x => rel X.K W'.s v x) vs a → Q vs W'.h) → RunA X es σ W.h Q
theorem al_nil {α : Type} [Rep α] : Al X ρ [] (some ([] : List α)) := .mk fun z hz => by
  cases hz
  exact ⟨rfl, fun We B σ W Q S k => useA pa_nil (k [] W (.refl W) .nil)⟩
def ocons {α : Type} (x : Option α) (y : Option (List α)) : Option (List α) := bind2 x y fun a b => some (a :: b)
theorem al_cons {α : Type} [Rep α] {oa : Option α} {os : Option (List α)} {es : List Expr} (ha : Ep X ρ a oa) (hs : Al X ρ es os) (hst : NS X a := by intro _; rfl) : Al X ρ (a :: es) (ocons oa os) := .mk fun z hz => by
  obtain ⟨x, y, hx, hy, hf⟩ := bind2_some hz
  cases hf
  refine ⟨congrArg Nat.succ (hs.run y hy).1, fun We B σ W Q S k => useA (pa_cons pe_run pa_run (hst _)) (ha.run x hx We B σ W _ S fun v W1 l1 r1 => (hs.run y hy).2 We B σ W1 _ (S.mono l1) fun us W2 l2 r2 => ?_)⟩
  exact k (v :: us) W2 (l1.trans l2) (.cons (Rep.mono l2.s r1) r2)
theorem ep_lst {α : Type} [Rep α] {es : List Expr} {o : Option (List α)} (h : Al X ρ es o) (hl : Nat.ble es.length 1000 = true := by rfl) : EpF X ρ (.List es pos) o := .mk fun z hz We B σ W Q S k => by
  obtain ⟨h1, h2⟩ := h.run z hz
  refine useE (pe_lst pa_run) (h2 We B σ W _ S fun vs W1 l1 r1 => ⟨?_, fun p hp => ?_⟩)
  · rw [plen r1, h1]
    exact Nat.le_trans (Nat.le_of_ble_eq_true hl) (by decide)
  · have l2 := Wd.Le.new W1 (.lst vs) hp
    exact k p vs (W1.new p (.lst vs) hp) (l1.trans l2) (l1.h.back (fre_of hp)) upd_same (pmono (fun _ _ h => Rep.mono l2.s h) r1)
/-- slices of lists -/
def cutL {α : Type} (xs : List α) (lo hi : Option Int) : List α := (xs.drop (HT.sIx xs.length 0 lo)).take (HT.sIx xs.length xs.length hi - HT.sIx xs.length 0 lo)
structure Pp (X : Cx) (ρ : List SV) (e : Option Expr) (o : Option (Option Int)) : Prop where
  ex : ∃ t, PO X e t ∧ ∀ a, o = some a → ∀ (We : Wd) (B : Hp) (σ : L2.St) (W : Wd) (Q : Option Int → Hp → Prop), SR X.K We B ρ σ W → (∀ W', W.Le W' → Q a W'.h) → t σ W.h Q
theorem pp_none : Pp X ρ none (some none) := .mk ⟨_, po_none, fun z hz We B σ W Q S k => by
  cases hz
  exact k W (.refl W)⟩
def osome (x : Option Int) : Option (Option Int) := x.bind fun i => some (some i)
theorem pp_some {o : Option Int} (h : Ep X ρ e o) : Pp X ρ (some e) (osome o) := .mk ⟨_, po_some pe_run, fun z hz We B σ W Q S k => by
  obtain ⟨x, hx, hf⟩ := bind_some hz
  cases hf
  exact h.run x hx We B σ W _ S fun v W1 l1 r1 => ⟨x, r1, k W1 l1⟩⟩
theorem pcut {α β : Type} {F : α → β → Prop} {l₁ : List α} {l₂ : List β} (h : Paired F l₁ l₂) (lo hi : Option Int) : Paired F (cutL l₁ lo hi) (cutL l₂ lo hi) := by
  unfold cutL
  rw [plen h]
  exact ptake _ (pdrop _ h)
def ocut {α : Type} (x : Option (List α)) (lo hi : Option (Option Int)) : Option (List α) := x.bind fun xs => lo.bind fun i => hi.bind fun j => some (cutL xs i j)
theorem ep_cut {α : Type} [Rep α] {oa : Option (List α)} {lo hi : Option Expr} {ol oh : Option (Option Int)} {p2 : Pos} (ha : Lp X ρ a oa) (hl : Pp X ρ lo ol) (hh : Pp X ρ hi oh) : EpF X ρ (.Subscript a (.Slice lo hi none p2) pos) (ocut oa ol oh) := .mk fun z hz We B σ W Q S k => by
  obtain ⟨x, hx, hf⟩ := bind_some hz
  obtain ⟨i, hi', hf⟩ := bind_some hf
  obtain ⟨j, hj, hf⟩ := bind_some hf
  cases hf
  obtain ⟨tl, pl, kl⟩ := hl.ex
  obtain ⟨th, ph, kh⟩ := hh.ex
  refine useE (pe_slice sl_list pe_run pl ph) (ha.run x hx We B σ W _ S fun p vs W1 l1 hp r1 => ?_)
  refine kl i hi' We B σ W1 _ (S.mono l1) fun W2 l2 => kh j hj We B σ W2 _ (S.mono (l1.trans l2)) fun W3 l3 => ?_
  refine ⟨p, vs, rfl, .of (l3.h _ _ (l2.h _ _ hp rfl) rfl), fun n hn => ?_⟩
  have l123 := (l1.trans l2).trans l3
  have l4 := Wd.Le.new W3 (.lst (cutV vs i j)) hn
  exact k n (cutV vs i j) (W3.new n (.lst (cutV vs i j)) hn) (l123.trans l4) (l123.h.back (fre_of hn)) upd_same (pmono (fun _ _ h => Rep.mono ((l2.trans l3).trans l4).s h) (pcut r1 i j))
end
end T
/-! typed layer, third part: blocks, loops, calls -/
namespace T
variable [Tb]
open PySem PySem.Spec PyProof.Rows L2
open Evl (Ex)
open Rep (rel)

/-- how a block ends -/
inductive Out (β γ : Type) where
  | ret (b : β)
  | go (g : γ)
  | cnt (g : γ)
  | exc (c : Nat)
def Acc (K : PySem.W.Frag) (xx : Nat → Hp → Prop) (We : Wd) (B : Hp) (fr : Bool) (D : Ends) {β γ : Type} [Rep β] (post : γ → List SV) : Out β γ → Prop
  | .ret b => ∀ v W', We.Le W' → Ex B W'.s → rel K W'.s v b → (fr = true → ∃ p, v = .ref p ∧ fre We.h p) → D.rt v W'.h
  | .go g => ∀ σ' W', SR K We B (post g) σ' W' → D.nx σ' W'.h
  | .cnt g => ∀ σ' W', SR K We B (post g) σ' W' → D.ct σ' W'.h
  | .exc c => ∀ W', We.Le W' → xx c W'.h
structure Bs (X : Cx) (xx : Nat → Hp → Prop) (ρ : List SV) (st : List Stmt) {β γ : Type} [Rep β] (fr : Bool) (m : Option (Out β γ)) (post : γ → List SV) : Prop where
  run : ∀ out, m = some out → ∀ (We : Wd) (B : Hp) (σ : L2.St) (W : Wd) (D : Ends), SR X.K We B ρ σ W → Acc X.K xx We B fr D post out → RunSs X st D σ W.h
section
variable {X : Cx} {ρ : List SV} {pos : Pos} {e a b c d : Expr} {rest st : List Stmt} {xx : Nat → Hp → Prop} {β γ : Type} [Rep β] {fr : Bool} {post : γ → List SV}

theorem bs_go {g : γ} (h : Wk ρ (post g)) : Bs X xx ρ [] (β := β) fr (some (.go g)) post := .mk fun out ho We B σ W D S k => by
  cases ho
  exact useSs pss_nil (k σ W (S.wk h))
theorem bs_cnt {g : γ} (h : Wk ρ (post g)) : Bs X xx ρ (.Continue pos :: rest) (β := β) fr (some (.cnt g)) post := .mk fun out ho We B σ W D S k => by
  cases ho
  exact useSs (pss_cons ps_continue pss_run) (k σ W (S.wk h))
theorem bs_pass {m : Option (Out β γ)} (h : Bs X xx ρ rest fr m post) : Bs X xx ρ (.Pass pos :: rest) fr m post := .mk fun out ho We B σ W D S k =>
  useSs (pss_cons ps_pass pss_run) (h.run out ho We B σ W D S k)
def oret {α γ : Type} (o : Option α) : Option (Out α γ) := o.bind fun x => some (.ret x)
theorem bs_ret {o : Option β} (h : Ep X ρ e o) : Bs X xx ρ (.Return (some e) pos :: rest) (γ := γ) false (oret o) post := .mk fun out ho We B σ W D S k => by
  obtain ⟨x, hx, hf⟩ := bind_some ho
  cases hf
  exact useSs (pss_cons (ps_ret pe_run) pss_run) (h.run x hx We B σ W _ S fun v W1 l1 r1 => k v W1 (S.le.trans l1) (S.b.trans l1.s) r1 fun z => by cases z)
theorem bs_retF {α : Type} [Rep α] {o : Option (List α)} {post : γ → List SV} (h : EpF X ρ e o) : Bs X xx ρ (.Return (some e) pos :: rest) (γ := γ) fr (oret o) post := .mk fun out ho We B σ W D S k => by
  obtain ⟨x, hx, hf⟩ := bind_some ho
  cases hf
  exact useSs (pss_cons (ps_ret pe_run) pss_run) (h.run x hx We B σ W _ S fun p vs W1 l1 hn hp r1 => k _ W1 (S.le.trans l1) (S.b.trans l1.s) ⟨p, vs, rfl, hp, r1⟩ fun _ => ⟨p, rfl, S.le.h.back hn⟩)
/-- a list that was changed till now is handed back -/
theorem SR.freeze {K : PySem.W.Frag} {We W : Wd} {B : Hp} {ρ : List SV} {σ : L2.St} {α : Type} [Rep α] {i : Nat} {m : ML α} (S : SR K We B ρ σ W) (h : ρ[i]? = some (.mut m)) :
    ∃ l vs W', σ[i]? = some (some (.ref l)) ∧ fre We.h l ∧ W'.h = W.h ∧ W'.s l = some (.lst vs) ∧ Paired (fun v x => rel K W'.s v x) vs m.xs ∧ SR K We B (ρ.set i (.imm m.xs)) σ W' := by
  obtain ⟨l, ob, e1, n1, n2, hh, vs, rfl, r⟩ := S.at_ i _ h
  have ex : Ex W.s (upd W.s l (.lst vs)) := Ex.new n2
  have r' := pmono (fun _ _ h => Rep.mono ex h) r
  refine ⟨l, vs, W.settle l (.lst vs) hh rfl, e1, n1, rfl, upd_same, r', ?_⟩
  · have hi : i < ρ.length := (List.getElem?_eq_some_iff.mp h).1
    refine ⟨⟨S.le.s.trans ex, S.le.h, fun p o h1 hno h2 => ?_⟩, S.b.trans ex, by rw [List.length_set]; exact S.len, fun j y hj => ?_, fun j k y z l' hjk hj hk mj mk ej ek => ?_⟩
    · show upd W.s l (.lst vs) p = none
      rw [upd_ne (fun z => by subst z; exact fre_no n1 h1 (tb_of_pl hno))]
      exact S.le.f p o h1 hno h2
    · rcases get_set_cases hj with ⟨rfl, rfl, hl⟩ | ⟨hne, h2⟩
      · exact ⟨.ref l, e1, l, vs, rfl, upd_same, r'⟩
      · have s0 := S.at_ j y h2
        match y, s0 with
        | .any, _ => trivial
        | @SV.imm _ ii a, ⟨v, e, rr⟩ => exact ⟨v, e, ii.mono ex rr⟩
        | @SV.mut _ ii a, ⟨l', ob, e, n, s, hh', rr⟩ =>
          refine ⟨l', ob, e, n, ?_, hh', ii.mono ex rr⟩
          show upd W.s l (.lst vs) l' = none
          rw [upd_ne (fun z => ?_)]
          · exact s
          · subst z
            exact S.sep j i _ _ l' hne h2 h trivial trivial e e1
    · rcases get_set_cases hj with ⟨rfl, rfl, hl⟩ | ⟨hne, h2⟩
      · exact mj
      · rcases get_set_cases hk with ⟨rfl, rfl, hl⟩ | ⟨hne', h3⟩
        · exact mk
        · exact S.sep j k y z l' hjk h2 h3 mj mk ej ek
theorem bs_freeze {α : Type} [Rep α] {xs : ML α} {m : Option (Out β γ)} (i : Nat) (h : Bs X xx (ρ.set i (.imm xs.xs)) st fr m post) (hi : ρ[i]? = some (.mut xs) := by rfl) : Bs X xx ρ st fr m post := .mk fun out ho We B σ W D S k => by
  obtain ⟨l, vs, W', e1, n1, eh, _, _, S'⟩ := S.freeze hi
  have z := h.run out ho We B σ W' D S' k
  rw [eh] at z
  exact z
/-- x = e -/
theorem bs_asg {α : Type} [Rep α] {o : Option α} {f : α → Option (Out β γ)} {x : Str} {p1 : Pos} (i : Nat) (nd : X.N.Nodup) (he : Ep X ρ e o) (hr : ∀ a, Bs X xx (ρ.set i (.imm a)) rest fr (f a) post)
    (hi : X.N[i]? = some x := by rfl) (hx : Loc X.env.scope x := by first | exact Or.inl rfl | exact Or.inr rfl) (hs : swapsWith e (some (.Name x p1)) pos.line X.env = pure false := by rfl)
    (hf : X.fn x = true ∨ X.env.scope.names.lookup x = some .local := by first | exact .inl rfl | exact .inr rfl) : Bs X xx ρ (.Assign [.Name x p1] e pos :: rest) fr (o.bind f) post := .mk fun out ho We B σ W D S k => by
  obtain ⟨y, hy, hf'⟩ := bind_some ho
  refine useSs (pss_cons (ps_set nd hi hx pe_run hs hf) pss_run) (he.run y hy We B σ W _ S fun v W1 l1 r1 => ?_)
  exact (hr y).run out hf' We B _ W1 D (S.set l1 r1) k
/-- x = a new list that will be changed -/
theorem SR.newM {K : PySem.W.Frag} {We W W' : Wd} {B : Hp} {ρ : List SV} {σ : L2.St} {α : Type} [Flat α] {i : Nat} {p : Addr} {vs : List V} {xs : List α} (S : SR K We B ρ σ W) (le : W.Le W') (hn : fre W.h p) (hp : W'.s p = some (.lst vs))
    (r : Paired (fun v x => rel K W'.s v x) vs xs) : ∃ W'', W''.h = W'.h ∧ SR K We B (ρ.set i (.mut (ML.mk xs))) (σ.set i (some (.ref p))) W'' := by
  have hs : W.s p = none := W.fs hn
  have s2ne : ∀ {q}, q ≠ p → (W'.unset p).s q = W'.s q := fun {q} h => if_neg h
  have s2p : (W'.unset p).s p = none := if_pos rfl
  have exs : Ex W.s (W'.unset p).s := fun q o h => by
    rw [s2ne (fun z => by subst z; rw [hs] at h; cases h)]
    exact le.s q o h
  have le2 : W.Le (W'.unset p) := ⟨exs, le.h, fun q o h1 n h2 => by
    show (W'.unset p).s q = none
    rw [s2ne (fun z => by subst z; exact fre_no hn h1 (tb_of_pl n))]
    exact le.f q o h1 n h2⟩
  refine ⟨W'.unset p, rfl, ?_⟩
  have S2 := S.mono le2
  refine ⟨S2.le, S2.b, by rw [List.length_set, List.length_set]; exact S.len, fun j y h => ?_, fun j k y z l hjk hj hk mj mk ej ek => ?_⟩
  · rcases get_set_cases h with ⟨rfl, rfl, hl⟩ | ⟨hne, h2⟩
    · rw [List.getElem?_set_self (by rw [S.len]; exact hl)]
      refine ⟨p, .lst vs, rfl, S.le.h.back hn, s2p, W'.e _ _ hp, vs, rfl, pmono (fun v x h => ?_) r⟩
      refine Flat.minus (fun q o hq hno => ?_) h
      show (W'.unset p).s q = _
      rw [s2ne (fun z => by subst z; rw [hp] at hq; cases hq; exact hno _ rfl)]
      exact hq
    · rw [List.getElem?_set_ne (fun z => hne z.symm)]
      exact S2.at_ j y h2
  · have fresh : ∀ {j : Nat} {y : SV}, y.isMut → ρ[j]? = some y → σ[j]? = some (some (.ref p)) → False := fun {j y} my hy ey => by
      have s0 := S.at_ j y hy
      match y, my, s0 with
      | @SV.mut _ ii a, _, ⟨l', ob, e, n, s, hh', rr⟩ =>
        rw [ey] at e
        cases e
        exact fre_no hn hh' (tb_of_pl (ii.nt rr))
    rcases get_set_cases hj with ⟨rfl, rfl, hl⟩ | ⟨hne, h2⟩
    · rw [List.getElem?_set_self (by rw [S.len]; exact hl)] at ej
      cases ej
      rcases get_set_cases hk with ⟨rfl, rfl, hl'⟩ | ⟨hne', h3⟩
      · exact hjk rfl
      · rw [List.getElem?_set_ne (fun z => hne' z.symm)] at ek
        exact fresh mk h3 ek
    · rw [List.getElem?_set_ne (fun z => hne z.symm)] at ej
      rcases get_set_cases hk with ⟨rfl, rfl, hl'⟩ | ⟨hne', h3⟩
      · rw [List.getElem?_set_self (by rw [S.len]; exact hl')] at ek
        cases ek
        exact fresh mj h2 ej
      · rw [List.getElem?_set_ne (fun z => hne' z.symm)] at ek
        exact S.sep j k y z l hjk h2 h3 mj mk ej ek
theorem bs_asgM {α : Type} [Flat α] {o : Option (List α)} {f : List α → Option (Out β γ)} {x : Str} {p1 : Pos} (i : Nat) (nd : X.N.Nodup) (he : EpF X ρ e o) (hr : ∀ a, Bs X xx (ρ.set i (.mut (ML.mk a))) rest fr (f a) post)
    (hi : X.N[i]? = some x := by rfl) (hx : Loc X.env.scope x := by first | exact Or.inl rfl | exact Or.inr rfl) (hs : swapsWith e (some (.Name x p1)) pos.line X.env = pure false := by rfl)
    (hf : X.fn x = true ∨ X.env.scope.names.lookup x = some .local := by first | exact .inl rfl | exact .inr rfl) : Bs X xx ρ (.Assign [.Name x p1] e pos :: rest) fr (o.bind f) post := .mk fun out ho We B σ W D S k => by
  obtain ⟨y, hy, hf'⟩ := bind_some ho
  refine useSs (pss_cons (ps_set nd hi hx pe_run hs hf) pss_run) (he.run y hy We B σ W _ S fun p vs W1 l1 hn hp r1 => ?_)
  obtain ⟨W2, e2, S2⟩ := S.newM (i := i) l1 hn hp r1
  have z := (hr y).run out hf' We B _ W2 D S2 k
  rw [e2] at z
  exact z
/-- x.append(e) -/
theorem SR.mutateS {K : PySem.W.Frag} {We W : Wd} {B : Hp} {ρ : List SV} {σ : L2.St} {α δ : Type} [MRep α] [MRep δ] {i : Nat} {m : α} {m' : δ} {l : Addr} {ob : HO} (S : SR K We B ρ σ W) (h : ρ[i]? = some (.mut m)) (hl : σ[i]? = some (some (.ref l)))
    (r : MRep.orel K W.s l ob m') : ∃ W', W'.h = upd W.h l ob ∧ W'.s = W.s ∧ SR K We B (ρ.set i (.mut m')) σ W' := by
  obtain ⟨l0, ob0, e1, n1, n2, hh, r0⟩ := S.at_ i _ h
  rw [hl] at e1
  cases e1
  have hpl : ∀ o, W.h l = some o → isPl o = true := fun o e => by
    rw [hh] at e
    cases e
    exact MRep.nt r0
  refine ⟨W.upH l ob n2 hpl, rfl, rfl, ?_⟩
  · refine ⟨⟨S.le.s, fun q o hq hno => ?_, S.le.f⟩, S.b, by rw [List.length_set]; exact S.len, fun j y hj => ?_, fun j k y z l' hjk hj hk mj mk ej ek => ?_⟩
    · show upd W.h l ob q = some o
      rw [upd_ne (fun z => by subst z; exact fre_no n1 hq hno)]
      exact S.le.h q o hq hno
    · rcases get_set_cases hj with ⟨rfl, rfl, hlt⟩ | ⟨hne, h2⟩
      · exact ⟨l, ob, hl, n1, n2, upd_same, r⟩
      · have s0 := S.at_ j y h2
        match y, s0 with
        | .any, _ => trivial
        | @SV.imm _ ii a, ⟨v, e, rr⟩ => exact ⟨v, e, rr⟩
        | @SV.mut _ ii a, ⟨l', ob', e, n, s, hh', rr⟩ =>
          refine ⟨l', ob', e, n, s, ?_, rr⟩
          show upd W.h l ob l' = some ob'
          rw [upd_ne (fun z => ?_)]
          · exact hh'
          · subst z
            exact S.sep j i _ _ l' hne h2 h trivial trivial e hl
    · have key : ∀ {j : Nat} {y : SV}, (ρ.set i (.mut m'))[j]? = some y → y.isMut → ∃ y', ρ[j]? = some y' ∧ y'.isMut := fun {j y} hj mj => by
        rcases get_set_cases hj with ⟨rfl, rfl, hlt⟩ | ⟨hne, h2⟩
        · exact ⟨_, h, trivial⟩
        · exact ⟨y, h2, mj⟩
      obtain ⟨y', hy', my'⟩ := key hj mj
      obtain ⟨z', hz', mz'⟩ := key hk mk
      exact S.sep j k y' z' l' hjk hy' hz' my' mz' ej ek
theorem SR.mutate {K : PySem.W.Frag} {We W : Wd} {B : Hp} {ρ : List SV} {σ : L2.St} {α δ : Type} [MRep α] [MRep δ] {i : Nat} {m : α} {m' : δ} {l : Addr} {ob : HO} (S : SR K We B ρ σ W) (h : ρ[i]? = some (.mut m)) (hl : σ[i]? = some (some (.ref l)))
    (r : MRep.orel K W.s l ob m') : ∃ W', W'.h = upd W.h l ob ∧ SR K We B (ρ.set i (.mut m')) σ W' := by
  obtain ⟨W', h1, _, h2⟩ := S.mutateS h hl r
  exact ⟨W', h1, h2⟩
def oapp {α : Type} (xs : List α) (o : Option α) : Option (List α) := o.bind fun x => if capOk xs.length then some (xs ++ [x]) else none
theorem bs_app {α : Type} [Rep α] {xs : ML α} {o : Option α} {f : List α → Option (Out β γ)} {x : Str} {p0 p1 p2 : Pos} (i : Nat) (he : Ep X ρ e o) (hr : ∀ a, Bs X xx (ρ.set i (.mut (ML.mk a))) rest fr (f a) post) (hρ : ρ[i]? = some (.mut xs) := by rfl)
    (hN : X.N[i]? = some x := by rfl) (hv : Vis X.env.scope x := by first | exact Or.inl rfl | exact Or.inr (Or.inl rfl) | exact Or.inr (Or.inr rfl)) (hd : (x == ("__debug__" : Str)) = false := by decide)
    (hcd : (x == ("__classdict__" : Str)) = false := by decide) (hbase : attributeBase (.Name x p0) "append" X.env (eval (.Name x p0) X.env) = eval (.Name x p0) X.env := by rfl)
    (hfew : ((backTo p2 (starEach [e] X.env)).all (fun x => !x.1) && (backToKw p2 (keywordEach [] X.env)).all (fun x => x.1.isSome)
      && decide ([e].length + ([] : List Keyword).length + (if ([] : List Keyword).isEmpty then 0 else 1) < 30)) = true := by rfl)
    (hline : (p1.endLine == p2.line) = true := by rfl) (hst : NS X e := by intro _; rfl)
    (hs : swapsWith (.Call (.Attribute (.Name x p0) "append" p1) [e] [] p2) none pos.line X.env = pure false := by rfl) :
    Bs X xx ρ (.Expr (.Call (.Attribute (.Name x p0) "append" p1) [e] [] p2) pos :: rest) fr ((oapp xs.xs o).bind f) post := .mk fun out ho We B σ W D S k => by
  obtain ⟨y, hy, hf'⟩ := bind_some ho
  obtain ⟨z, hz, hy⟩ := bind_some hy
  split at hy
  · rename_i hc
    cases hy
    obtain ⟨l, ob, e1, n1, n2, hh, vs, rfl, r⟩ := S.at_ i _ hρ
    refine useSs (pss_cons (ps_expr (pe_bm PySem.F.plainAttrs_list PySem.F.slot_list_append PySem.F.type_list_append mt_append (pe_var hN hv hd hcd) (pa_cons pe_run pa_nil (hst _)) hbase hfew hline (hst _)) hs) pss_run) ?_
    refine ⟨_, e1, .inl ⟨rfl, _, .of hh⟩, he.run z hz We B σ W _ S fun v W1 l1 r1 => ?_⟩
    refine ⟨l, vs, v, rfl, rfl, l1.h _ _ hh rfl, ?_, ?_⟩
    · rw [plen r]
      exact cap_lt hc
    · have S1 := S.mono l1
      have r' := pmono (fun _ _ h => Rep.mono l1.s h) r
      obtain ⟨W2, e2, S2⟩ := S1.mutate (δ := ML α) (m' := ML.mk (xs.xs ++ [z])) (ob := .lst (vs ++ [v])) hρ e1 (show MRep.orel X.K W1.s _ _ (ML.mk (xs.xs ++ [z])) from ⟨_, rfl, papp r' (.cons r1 .nil)⟩)
      have q := (hr _).run out hf' We B _ W2 D S2 k
      rw [e2] at q
      exact q
  · cases hy
/-! if -/
def noGo {β γ : Type} : Option (Out β γ) → Option (Out β γ)
  | some (.ret b) => some (.ret b)
  | some (.cnt g) => some (.cnt g)
  | some (.exc c) => some (.exc c)
  | _ => none
def oite {α : Type} (c : Option Bool) (x y : Option α) : Option α := c.bind fun b => if b then x else y
theorem bs_ifR {oc : Option Bool} {mA m : Option (Out β γ)} (hc : Tp X ρ c oc) (hA : Bs X xx ρ st fr mA post) (hr : Bs X xx ρ rest fr m post) : Bs X xx ρ (.If c st [] pos :: rest) fr (oite oc (noGo mA) m) post := .mk fun out ho We B σ W D S k => by
  obtain ⟨x, hx, hf⟩ := bind_some ho
  refine useSs (pss_cons (ps_if pt_run pss_run pss_nil) pss_run) (hc.run x hx We B σ W _ S fun W1 l1 => ?_)
  have S1 := S.mono l1
  cases x with
  | false => exact iteF (hr.run out hf We B σ W1 D S1 k)
  | true =>
    refine iteT ?_
    have hf : noGo mA = some out := hf
    cases mA with
    | none => cases hf
    | some o1 =>
      cases o1 with
      | go g => cases hf
      | ret b =>
        cases hf
        exact hA.run _ rfl We B σ W1 _ S1 k
      | cnt g =>
        cases hf
        exact hA.run _ rfl We B σ W1 _ S1 k
      | exc c =>
        cases hf
        exact hA.run _ rfl We B σ W1 _ S1 k
def thenO {β γ γ' : Type} (m : Option (Out β γ)) (k : γ → Option (Out β γ')) : Option (Out β γ') := m.bind fun o => match o with
  | .ret b => some (.ret b)
  | .go g => k g
  | .cnt _ => none
  | .exc c => some (.exc c)
theorem bs_ifG {γ1 : Type} {post1 : γ1 → List SV} {oc : Option Bool} {mA mB : Option (Out β γ1)} {m : γ1 → Option (Out β γ)} {st' : List Stmt} (hc : Tp X ρ c oc) (hA : Bs X xx ρ st fr mA post1) (hB : Bs X xx ρ st' fr mB post1) (hr : ∀ g, Bs X xx (post1 g) rest fr (m g) post) :
    Bs X xx ρ (.If c st st' pos :: rest) fr (thenO (oite oc mA mB) m) post := .mk fun out ho We B σ W D S k => by
  obtain ⟨o1, h1, hf⟩ := bind_some ho
  obtain ⟨x, hx, h1⟩ := bind_some h1
  refine useSs (pss_cons (ps_if pt_run pss_run pss_run) pss_run) (hc.run x hx We B σ W _ S fun W1 l1 => ?_)
  have S1 := S.mono l1
  have acc : Acc X.K xx We B fr { D with nx := RunSs X rest D } post1 o1 := by
    cases o1 with
    | ret b =>
      cases hf
      exact k
    | go g => exact fun σ' W' S' => (hr g).run out hf We B σ' W' D S' k
    | cnt g => cases hf
    | exc c =>
      cases hf
      exact k
  cases x with
  | false => exact iteF (hB.run o1 h1 We B σ W1 _ S1 acc)
  | true => exact iteT (hA.run o1 h1 We B σ W1 _ S1 acc)
/-! targets -/
/-- what storing a value through g does to the slots -/
structure TgR (K : PySem.W.Frag) (g : TG) {α : Type} [Rep α] (js : List Nat) (up : α → List SV → List SV) : Prop where
  run : ∀ (a : α) (We : Wd) (B : Hp) (ρ : List SV) (σ : L2.St) (W : Wd) (v : V) (Q : L2.St → Hp → Prop), SR K We B ρ σ W → rel K W.s v a → (∀ σ', SR K We B (up a ρ) σ' W → (∀ vs : List Nat, (∀ j ∈ js, j ∈ vs) → wipe σ' vs = wipe σ vs) → Q σ' W.h) → g v σ W.h Q
theorem wipe_get {σ : L2.St} : ∀ (vs : List Nat) (i : Nat), (wipe σ vs)[i]? = if i ∈ vs then (if i < σ.length then some none else none) else σ[i]?
  | [], i => by simp [wipe]
  | v :: vs, i => by
    show ((wipe σ vs).set v none)[i]? = _
    by_cases h : v = i
    · subst h
      rw [if_pos (List.mem_cons_self ..), List.getElem?_set]
      rw [if_pos rfl, wipe_length]
    · rw [List.getElem?_set_ne h, wipe_get vs i]
      by_cases hm : i ∈ vs
      · rw [if_pos hm, if_pos (List.mem_cons_of_mem _ hm)]
      · rw [if_neg hm, if_neg (fun z => (List.mem_cons.mp z).elim (fun q => h q.symm) hm)]
theorem wipe_set {σ : L2.St} {vs : List Nat} {j : Nat} {o : Option V} (h : j ∈ vs) : wipe (σ.set j o) vs = wipe σ vs := by
  apply List.ext_getElem?
  intro i
  rw [wipe_get, wipe_get, List.length_set]
  by_cases hi : i ∈ vs
  · rw [if_pos hi, if_pos hi]
  · rw [if_neg hi, if_neg hi, List.getElem?_set_ne (fun z => hi (by rw [← z]; exact h))]
theorem tg_name {K : PySem.W.Frag} {α : Type} [Rep α] (j : Nat) : TgR K (gName j) (α := α) [j] (fun a ρ => ρ.set j (.imm a)) := .mk fun a We B ρ σ W v Q S r k =>
  k _ (S.set (.refl W) r) fun vs h => wipe_set (h j (List.mem_cons_self ..))
theorem tg_pair {K : PySem.W.Frag} {α β : Type} [Rep α] [Rep β] (i j : Nat) : TgR K (gTup K 2 (gCons (gName i) (gCons (gName j) gNil))) (α := α × β) [i, j] (fun a ρ => (ρ.set i (.imm a.1)).set j (.imm a.2)) := .mk fun a We B ρ σ W v Q S ⟨p, x, y, e1, e2, r1, r2⟩ k => by
  refine ⟨p, [x, y], e1, .of (W.e _ _ e2), rfl, x, [y], rfl, y, [], rfl, rfl, ?_⟩
  refine k _ ((S.set (.refl W) r1).set (.refl W) r2) fun vs h => ?_
  rw [wipe_set (h j (by simp)), wipe_set (h i (by simp))]
theorem tg_tri {K : PySem.W.Frag} (i j l : Nat) : TgR K (gTup K 3 (gCons (gName i) (gCons (gName j) (gCons (gName l) gNil)))) (α := Tri) [i, j, l] (fun a ρ => ((ρ.set i (.imm a.a)).set j (.imm a.b)).set l (.imm a.c)) := .mk fun a We B ρ σ W v Q S ⟨p, e1, e2⟩ k => by
  refine ⟨p, _, e1, (e2.mono W.e).sq, rfl, _, _, rfl, _, _, rfl, _, [], rfl, rfl, ?_⟩
  refine k _ (((S.set (.refl W) rfl).set (.refl W) rfl).set (.refl W) rfl) fun vs h => ?_
  rw [wipe_set (h l (by simp)), wipe_set (h j (by simp)), wipe_set (h i (by simp))]
/-- target = e -/
theorem bs_unp {α : Type} [Rep α] {tg : Expr} {g : TG} {js : List Nat} {up : α → List SV → List SV} {o : Option α} {f : α → Option (Out β γ)} (hg : PG X tg g) (ht : TgR X.K g js up) (he : Ep X ρ e o) (hr : ∀ a, Bs X xx (up a ρ) rest fr (f a) post)
    (hs : swapsWithSole [tg] e pos.line X.env = pure false := by rfl) (hw : swappedStores [tg] e X.env = pure none := by rfl) (h1 : (assignEach [tg] X.env).map (·.2) = [assign tg X.env] := by rfl) : Bs X xx ρ (.Assign [tg] e pos :: rest) fr (o.bind f) post := .mk fun out ho We B σ W D S k => by
  obtain ⟨y, hy, hf'⟩ := bind_some ho
  refine useSs (pss_cons (ps_asg pe_run hg hs hw h1) pss_run) (he.run y hy We B σ W _ S fun v W1 l1 r1 => ?_)
  exact ht.run y We B ρ σ W1 v _ (S.mono l1) r1 fun σ' S' _ => (hr y).run out hf' We B σ' W1 D S' k
/-! for -/
def loopL {α β γ : Type} (f : α → γ → Option (Out β γ)) : List α → γ → Option (Out β γ)
  | [], g => some (.go g)
  | x :: r, g => (f x g).bind fun o => match o with
    | .ret b => some (.ret b)
    | .go g' => loopL f r g'
    | .cnt g' => loopL f r g'
    | .exc c => some (.exc c)
theorem drop_get {α : Type} {xs : List α} {i : Nat} {x : α} (h : xs[i]? = some x) : xs.drop i = x :: xs.drop (i + 1) := by
  obtain ⟨hi, rfl⟩ := List.getElem?_eq_some_iff.mp h
  exact List.drop_eq_getElem_cons hi
theorem pget' {α β : Type} {F : α → β → Prop} : ∀ {l₁ : List α} {l₂ : List β} {j : Nat} {x : α}, Paired F l₁ l₂ → l₁[j]? = some x → ∃ y, l₂[j]? = some y ∧ F x y
  | _, _, j, y, .nil, h => by simp at h
  | _, _, 0, y, .cons r t, h => by
    simp at h
    subst h
    exact ⟨_, rfl, r⟩
  | _, _, j + 1, y, .cons r t, h => by
    obtain ⟨x, h1, h2⟩ := pget' (j := j) (x := y) t (by simpa using h)
    exact ⟨x, by simpa using h1, h2⟩
/-- for target in a settled list -/
theorem bs_for {α γ1 : Type} [Rep α] {tg iter : Expr} {body : List Stmt} {g : TG} {js : List Nat} {up : α → List SV → List SV} {o : Option (List α)} {f : α → γ1 → Option (Out β γ1)} {m : γ1 → Option (Out β γ)} (P : γ1 → List SV) (g0 : γ1)
    (hg : PG X tg g) (ht : TgR X.K g js up) (hi : Ep X ρ iter o) (h0 : Wk ρ (P g0)) (hb : ∀ x g, Bs X xx (up x (P g)) body fr (f x g) P) (hr : ∀ g, Bs X xx (P g) rest fr (m g) post)
    (hp : PassesOwn (model X.prog X.w) X.A X.env X.xe) (hc : X.calm = true) (hs : ∀ x, foldedSetIterable iter X.env x = pure x := by intro _; rfl) :
    Bs X xx ρ (.For tg iter body [] pos :: rest) fr (o.bind fun xs => thenO (loopL f xs g0) m) post := .mk fun out ho We B σ W D S k => by
  obtain ⟨xs, hxs, ho⟩ := bind_some ho
  obtain ⟨o1, h1, hf⟩ := bind_some ho
  refine useSs (pss_cons (ps_for hp hc (pi_list pe_run) hg pss_run hs) pss_run) (hi.run xs hxs We B σ W _ S fun v W1 l1 ⟨p, vs, e1, hp1, r1⟩ => ?_)
  subst e1
  refine ⟨p, rfl, ⟨vs, .of (W1.e _ _ hp1)⟩, for_list (xs := vs) (fun i σ' H' => ∃ g' W', H' = W'.h ∧ SR X.K We W1.s (P g') σ' W' ∧ loopL f (xs.drop i) g' = some o1) ?_ ?_ ?_ ?_⟩
  · exact ⟨g0, W1, rfl, ((S.mono l1).rebase (Ex.refl _)).wk h0, h1⟩
  · rintro i σ' H' _ ⟨g', W', rfl, S', _⟩
    exact .of (W'.e _ _ (S'.b _ _ hp1))
  · rintro i v σ' H' hv ⟨g', W', rfl, S', hl⟩
    obtain ⟨x, hx, rx⟩ := pget' r1 hv
    rw [drop_get hx] at hl
    obtain ⟨o2, h2, hl⟩ := bind_some hl
    refine ht.run x We W1.s _ σ' W' v _ S' (Rep.mono S'.b rx) fun σ2 S2 _ => ?_
    refine (hb x g').run o2 h2 We W1.s σ2 W' _ S2 ?_
    cases o2 with
    | ret b =>
      cases hl
      cases hf
      exact fun v' W2 l2 b2 r2 q2 => k v' W2 l2 (((S.b.trans l1.s)).trans b2) r2 q2
    | go g2 => exact fun σ3 W3 S3 => ⟨g2, W3, rfl, S3, hl⟩
    | cnt g2 => exact fun σ3 W3 S3 => ⟨g2, W3, rfl, S3, hl⟩
    | exc c =>
      cases hl
      cases hf
      exact k
  · rintro σ' H' ⟨g', W', rfl, S', hl⟩
    rw [plen r1, List.drop_length] at hl
    cases hl
    exact (hr g').run out hf We B σ' W' D (S'.rebase (((S.b.trans l1.s)).trans S'.b)) k
/-- for k in range(n) -/
def rngL (n : Int) : List Int := (List.range n.toNat).map fun (i : Nat) => (i : Int)
def rngOk (n : Int) : Bool := decide (-1000000 ≤ n) && decide (n ≤ 1000000)
def orng (n : Option Int) : Option (List Int) := n.bind fun k => if rngOk k then some (rngL k) else none
theorem rngL_get {n : Int} {i : Nat} (h : i < n.toNat) : (rngL n)[i]? = some (i : Int) := by
  unfold rngL
  rw [List.getElem?_map, List.getElem?_range h]
  rfl
theorem rngL_len (n : Int) : (rngL n).length = n.toNat := by
  unfold rngL
  rw [List.length_map, List.length_range]
theorem bs_forR {γ1 : Type} {tg n : Expr} {body : List Stmt} {p1 p2 : Pos} {g : TG} {js : List Nat} {up : Int → List SV → List SV} {o : Option Int} {f : Int → γ1 → Option (Out β γ1)} {m : γ1 → Option (Out β γ)} (P : γ1 → List SV) (g0 : γ1)
    (hgl : Gl X "range") (hm : X.mg "range" = none) (hg : PG X tg g) (ht : TgR X.K g js up) (hi : Ep X ρ n o) (h0 : Wk ρ (P g0)) (hb : ∀ x g, Bs X xx (up x (P g)) body fr (f x g) P) (hr : ∀ g, Bs X xx (P g) rest fr (m g) post)
    (hp : PassesOwn (model X.prog X.w) X.A X.env X.xe) (hc : X.calm = true) (hst : NS X n := by intro _; rfl)
    (hs : ∀ x, foldedSetIterable (.Call (.Name "range" p1) [n] [] p2) X.env x = pure x := by intro _; rfl) :
    Bs X xx ρ (.For tg (.Call (.Name "range" p1) [n] [] p2) body [] pos :: rest) fr ((orng o).bind fun xs => thenO (loopL f xs g0) m) post := .mk fun out ho We B σ W D S k => by
  obtain ⟨xs, hxs, ho⟩ := bind_some ho
  obtain ⟨o1, h1, hf⟩ := bind_some ho
  obtain ⟨z, hz, hxs⟩ := bind_some hxs
  split at hxs
  · rename_i hok
    cases hxs
    unfold rngOk at hok
    simp only [Bool.and_eq_true, decide_eq_true_eq] at hok
    refine useSs (pss_cons (ps_for hp hc (pi_range1 hgl hm (pa_cons pe_run pa_nil (hst _)) (by rw [hst]; rfl)) hg pss_run hs) pss_run) (hi.run z hz We B σ W _ S fun v W1 l1 r1 => ?_)
    cases r1
    refine ⟨z, rfl, by omega, by omega, for_range (lo := 0) (n := z.toNat) (fun i σ' H' => ∃ g' W', H' = W'.h ∧ SR X.K We W1.s (P g') σ' W' ∧ loopL f ((rngL z).drop i) g' = some o1) ?_ ?_ ?_⟩
    · exact ⟨g0, W1, rfl, ((S.mono l1).rebase (Ex.refl _)).wk h0, h1⟩
    · rintro i σ' H' hi' ⟨g', W', rfl, S', hl⟩
      rw [drop_get (rngL_get hi')] at hl
      obtain ⟨o2, h2, hl⟩ := bind_some hl
      refine ht.run (i : Int) We W1.s _ σ' W' _ _ S' (show V.int (0 + (i : Int)) = V.int i by rw [Int.zero_add]) fun σ2 S2 _ => ?_
      refine (hb (i : Int) g').run o2 h2 We W1.s σ2 W' _ S2 ?_
      cases o2 with
      | ret b =>
        cases hl
        cases hf
        exact fun v' W2 l2 b2 r2 q2 => k v' W2 l2 (((S.b.trans l1.s)).trans b2) r2 q2
      | go g2 => exact fun σ3 W3 S3 => ⟨g2, W3, rfl, S3, hl⟩
      | cnt g2 => exact fun σ3 W3 S3 => ⟨g2, W3, rfl, S3, hl⟩
      | exc c =>
        cases hl
        cases hf
        exact k
    · rintro σ' H' ⟨g', W', rfl, S', hl⟩
      rw [← rngL_len, List.drop_length] at hl
      cases hl
      exact (hr g').run out hf We B σ' W' D (S'.rebase (((S.b.trans l1.s)).trans S'.b)) k
  · cases hxs
/-! while -/
def loopN {β γ : Type} (c : γ → Option Bool) (f : γ → Option (Out β γ)) : Nat → γ → Option (Out β γ)
  | 0, _ => none
  | n + 1, g => (c g).bind fun b => if b then (f g).bind fun o => match o with
      | .ret b => some (.ret b)
      | .go g' => loopN c f n g'
      | .cnt g' => loopN c f n g'
      | .exc c => some (.exc c)
    else some (.go g)
theorem loopN_mono {β γ : Type} {c : γ → Option Bool} {f : γ → Option (Out β γ)} : ∀ {n : Nat} {g : γ} {o : Out β γ}, loopN c f n g = some o → loopN c f (n + 1) g = some o
  | 0, _, _, h => by cases h
  | n + 1, g, o, h => by
    obtain ⟨b, hb, h⟩ := bind_some h
    show (c g).bind _ = _
    rw [hb]
    show (if b = true then _ else _) = _
    cases b with
    | false => exact h
    | true =>
      rw [if_pos rfl] at h ⊢
      obtain ⟨o1, h1, h⟩ := bind_some h
      rw [h1]
      cases o1 with
      | ret b => exact h
      | go g' => exact loopN_mono (n := n) h
      | cnt g' => exact loopN_mono (n := n) h
      | exc c => exact h
theorem loopN_le {β γ : Type} {c : γ → Option Bool} {f : γ → Option (Out β γ)} {n k : Nat} {g : γ} {o : Out β γ} (h : loopN c f n g = some o) : loopN c f (n + k) g = some o := by
  induction k with
  | zero => exact h
  | succ k ih => exact loopN_mono ih
open Classical in
noncomputable def loopW {β γ : Type} (c : γ → Option Bool) (f : γ → Option (Out β γ)) (g : γ) : Option (Out β γ) :=
  if h : ∃ n o, loopN c f n g = some o then loopN c f h.choose g else none
theorem loopW_some {β γ : Type} {c : γ → Option Bool} {f : γ → Option (Out β γ)} {g : γ} {o : Out β γ} : loopW c f g = some o ↔ ∃ n, loopN c f n g = some o := by
  constructor
  · intro h
    unfold loopW at h
    split at h
    · exact ⟨_, h⟩
    · cases h
  · rintro ⟨n, h⟩
    have hex : ∃ n o, loopN c f n g = some o := ⟨n, o, h⟩
    unfold loopW
    rw [dif_pos hex]
    obtain ⟨o', h'⟩ := hex.choose_spec
    have e1 := loopN_le (k := n) h'
    have e2 := loopN_le (k := hex.choose) h
    rw [Nat.add_comm] at e2
    rw [e1] at e2
    rw [h', Option.some.inj e2]
/-- one turn -/
theorem loopW_eq {β γ : Type} (c : γ → Option Bool) (f : γ → Option (Out β γ)) (g : γ) : loopW c f g = (c g).bind fun b => if b then (f g).bind fun o => match o with
      | .ret b => some (.ret b)
      | .go g' => loopW c f g'
      | .cnt g' => loopW c f g'
      | .exc c => some (.exc c)
    else some (.go g) := by
  have key : ∀ o, loopW c f g = some o ↔ ((c g).bind fun b => if b then (f g).bind fun o => match o with
      | .ret b => some (.ret b)
      | .go g' => loopW c f g'
      | .cnt g' => loopW c f g'
      | .exc c => some (.exc c)
    else some (.go g)) = some o := by
    intro o
    rw [loopW_some]
    constructor
    · rintro ⟨n, h⟩
      cases n with
      | zero => cases h
      | succ n =>
        obtain ⟨b, hb, h⟩ := bind_some h
        rw [hb]
        show (if b = true then _ else _) = _
        cases b with
        | false => exact h
        | true =>
          rw [if_pos rfl] at h ⊢
          obtain ⟨o1, h1, h⟩ := bind_some h
          rw [h1]
          cases o1 with
          | ret b => exact h
          | go g' => exact loopW_some.mpr ⟨n, h⟩
          | cnt g' => exact loopW_some.mpr ⟨n, h⟩
          | exc c => exact h
    · intro h
      obtain ⟨b, hb, h⟩ := bind_some h
      cases b with
      | false => exact ⟨1, by show (c g).bind _ = _; rw [hb]; exact h⟩
      | true =>
        rw [if_pos rfl] at h
        obtain ⟨o1, h1, h⟩ := bind_some h
        cases o1 with
        | ret b => exact ⟨1, by show (c g).bind _ = _; rw [hb]; show (f g).bind _ = _; rw [h1]; exact h⟩
        | go g' =>
          obtain ⟨n, h⟩ := loopW_some.mp h
          exact ⟨n + 1, by show (c g).bind _ = _; rw [hb]; show (f g).bind _ = _; rw [h1]; exact h⟩
        | cnt g' =>
          obtain ⟨n, h⟩ := loopW_some.mp h
          exact ⟨n + 1, by show (c g).bind _ = _; rw [hb]; show (f g).bind _ = _; rw [h1]; exact h⟩
        | exc e => exact ⟨1, by show (c g).bind _ = _; rw [hb]; show (f g).bind _ = _; rw [h1]; exact h⟩
  cases h : loopW c f g with
  | some o => exact ((key o).mp h).symm
  | none =>
    cases h2 : ((c g).bind fun b => if b then (f g).bind fun o => match o with
      | .ret b => some (.ret b)
      | .go g' => loopW c f g'
      | .cnt g' => loopW c f g'
      | .exc c => some (.exc c)
    else some (.go g)) with
    | none => rfl
    | some o =>
      rw [(key o).mpr h2] at h
      cases h
theorem bs_while {γ1 : Type} {body : List Stmt} {oc : γ1 → Option Bool} {f : γ1 → Option (Out β γ1)} {m : γ1 → Option (Out β γ)} (P : γ1 → List SV) (g0 : γ1)
    (h0 : Wk ρ (P g0)) (hc : ∀ g, Tp X (P g) c (oc g)) (hb : ∀ g, Bs X xx (P g) body fr (f g) P) (hr : ∀ g, Bs X xx (P g) rest fr (m g) post) (hp : PassesOwn (model X.prog X.w) X.A X.env X.xe) :
    Bs X xx ρ (.While c body [] pos :: rest) fr (thenO (loopW oc f g0) m) post := .mk fun out ho We B σ W D S k => by
  obtain ⟨o1, h1, hf⟩ := bind_some ho
  obtain ⟨n0, h1⟩ := loopW_some.mp h1
  refine useSs (pss_cons (ps_while hp pt_run pss_run) pss_run) ?_
  refine ⟨fun n σ' H' => ∃ g' W', H' = W'.h ∧ SR X.K We B (P g') σ' W' ∧ loopN oc f n g' = some o1, ⟨n0, g0, W, rfl, S.wk h0, h1⟩, ?_⟩
  rintro n σ' H' ⟨g', W', rfl, S', hl⟩
  cases n with
  | zero => cases hl
  | succ n =>
    obtain ⟨b, hb', hl⟩ := bind_some hl
    refine (hc g').run b hb' We B σ' W' _ S' fun W1 l1 => ?_
    have S1 := S'.mono l1
    cases b with
    | false =>
      cases hl
      exact iteF ((hr g').run out hf We B σ' W1 D S1 k)
    | true =>
      rw [if_pos rfl] at hl
      obtain ⟨o2, h2, hl⟩ := bind_some hl
      refine iteT ⟨fun σ2 H2 => ∃ g2 W2, H2 = W2.h ∧ SR X.K We B (P g2) σ2 W2 ∧ loopN oc f n g2 = some o1, fun σ2 H2 hW => ⟨n, Nat.lt_succ_self n, hW⟩, ?_⟩
      refine (hb g').run o2 h2 We B σ' W1 _ S1 ?_
      cases o2 with
      | ret b =>
        cases hl
        cases hf
        exact k
      | go g2 => exact fun σ3 W3 S3 => ⟨g2, W3, rfl, S3, hl⟩
      | cnt g2 => exact fun σ3 W3 S3 => ⟨g2, W3, rfl, S3, hl⟩
      | exc c =>
        cases hl
        cases hf
        exact k
end
end T
/-! typed layer, fourth part: defs and calls, comprehensions, data compared -/
namespace T
variable [Tb]
open PySem PySem.Spec PyProof.Rows L2
open Evl (Ex)
open Rep (rel)

/-! ### what a def promises -/
def SV.settled (K : PySem.W.Frag) (W : Wd) (v : V) : SV → Prop
  | .any => True
  | @SV.imm _ r a => r.rel K W.s v a
  | @SV.mut _ _ _ => False
inductive AR (K : PySem.W.Frag) (W : Wd) : List V → List SV → Prop
  | nil : AR K W [] []
  | cons {v : V} {x : SV} {vs : List V} {xs : List SV} : SV.settled K W v x → AR K W vs xs → AR K W (v :: vs) (x :: xs)
theorem AR.len {K : PySem.W.Frag} {W : Wd} {vs : List V} {xs : List SV} (h : AR K W vs xs) : vs.length = xs.length := by
  induction h with
  | nil => rfl
  | cons _ _ ih => exact congrArg Nat.succ ih
theorem AR.get {K : PySem.W.Frag} {W : Wd} {vs : List V} {xs : List SV} (h : AR K W vs xs) : ∀ {j : Nat} {y : SV}, xs[j]? = some y → ∃ x, vs[j]? = some x ∧ SV.settled K W x y := by
  induction h with
  | nil => intro j y e; simp at e
  | cons r _ ih =>
    intro j y e
    cases j with
    | zero =>
      cases e
      exact ⟨_, rfl, r⟩
    | succ j => exact ih (j := j) e
/-- fr: the result is a new object; C: what is computed of what -/
def spOf (K : PySem.W.Frag) (fr : Bool) {β : Type} [Rep β] (C : List SV → β → Prop) : Sp := fun vs H Q _ =>
  ∃ (W : Wd) (avs : List SV) (r : β), H = W.h ∧ AR K W vs avs ∧ (∀ x ∈ avs, ¬ x.isMut) ∧ C avs r ∧
    ∀ v W', W.Le W' → rel K W'.s v r → (fr = true → ∃ p, v = .ref p ∧ fre W.h p) → Q v W'.h
def C1 {α β : Type} [Rep α] (m : α → Option β) : List SV → β → Prop := fun l r => ∃ a, l = [.imm a] ∧ m a = some r
def C2 {α α' β : Type} [Rep α] [Rep α'] (m : α → α' → Option β) : List SV → β → Prop := fun l r => ∃ a b, l = [.imm a, .imm b] ∧ m a b = some r
def C3 {α α' α'' β : Type} [Rep α] [Rep α'] [Rep α''] (m : α → α' → α'' → Option β) : List SV → β → Prop := fun l r => ∃ a b c, l = [.imm a, .imm b, .imm c] ∧ m a b c = some r
def C4 {α α' α'' α3 β : Type} [Rep α] [Rep α'] [Rep α''] [Rep α3] (m : α → α' → α'' → α3 → Option β) : List SV → β → Prop := fun l r => ∃ a b c d, l = [.imm a, .imm b, .imm c, .imm d] ∧ m a b c d = some r
def C5 {α α' α'' α3 α4 β : Type} [Rep α] [Rep α'] [Rep α''] [Rep α3] [Rep α4] (m : α → α' → α'' → α3 → α4 → Option β) : List SV → β → Prop := fun l r => ∃ a b c d e, l = [.imm a, .imm b, .imm c, .imm d, .imm e] ∧ m a b c d e = some r
/-- the value of a def's body -/
def retv {β γ : Type} (o : Option (Out β γ)) : Option β := match o with
  | some (.ret b) => some b
  | _ => none
/-- nothing is raised -/
def noX : Nat → Hp → Prop := fun _ _ => False
def nopost : Empty → List SV := fun z => nomatch z
section
variable {P : Program} {w : World} {K : PySem.W.Frag} {mg : Str → Option Value} {base : Heap} {name qual : Str} {params : Arguments} {body : List Stmt} {scope : Scope} {f : Addr} {fd : FuncData} {N ps : List Str} {k : Nat} {β : Type} [Rep β] {fr : Bool} {C : List SV → β → Prop}
abbrev cx0 (P : Program) (w : World) (K : PySem.W.Frag) (mg : Str → Option Value) (base : Heap) (N : List Str) (qual : Str) (scope : Scope) (f : Addr) (cd : Value) (A : Around) (outer : List Env) (s : Shared) (H : Hp) (E : XK) : Cx := (cxOf CX0 P w K mg base N qual scope f cd A outer s H E).nox
theorem sr_start {W : Wd} {vs : List V} {avs : List SV} (hl : avs.length ≤ N.length) (r : AR K W vs avs) (nm : ∀ x ∈ avs, ¬ x.isMut) : SR K W W.s (avs ++ List.replicate (N.length - avs.length) .any) (L2.start N vs) W := by
  have el := r.len
  unfold L2.start
  refine ⟨.refl W, Ex.refl _, by simp [el], fun i x h => ?_, fun i j x y l hij hi hj mi mj _ _ => ?_⟩
  · by_cases hi : i < avs.length
    · rw [List.getElem?_append_left hi] at h
      obtain ⟨v, hv, rv⟩ := r.get h
      rw [List.getElem?_append_left (by rw [List.length_map, el]; exact hi), List.getElem?_map, hv]
      match x, rv with
      | .any, _ => trivial
      | @SV.imm _ ii a, rv => exact ⟨v, rfl, rv⟩
    · rw [List.getElem?_append_right (by omega), List.getElem?_replicate] at h
      split at h
      · cases h
        trivial
      · cases h
  · by_cases hi' : i < avs.length
    · rw [List.getElem?_append_left hi'] at hi
      exact nm x (List.mem_of_getElem? hi) mi
    · rw [List.getElem?_append_right (by omega), List.getElem?_replicate] at hi
      split at hi
      · cases hi
        exact mi
      · cases hi
/-- THE RULE of a def: its body, from the arguments -/
theorem fn_ok {γ : Type} {post : γ → List SV} (F : FunD K name qual params body scope [] [] f fd) (S : FnScope N ps scope) (hl : ps.length ≤ N.length) (hC : ∀ l r, C l r → l.length = ps.length)
    (h : ∀ (cdv : Value) (A : Around) (outer : List Env) (s : Shared) (H : Hp) (E : XK), Room k (A.deeper (envOfC qual scope s.heap.objs.size f cdv)) → ∀ l r, C l r →
      ∃ m : Option (Out β γ), retv m = some r ∧ Bs (cx0 P w K mg base N qual scope f cdv A outer s H E) noX (l ++ List.replicate (N.length - l.length) .any) body fr m post) :
    FnOk P w K mg base CX0 (k + 1) f fd ps (spOf K fr C) := by
  refine F.ok S (fun vs H Q E ⟨W, avs, r, _, pr, _, c, _⟩ => pr.len.trans (hC _ _ c)) (fun cdv A outer s H vs Q E hr ⟨W, avs, r, eh, pr, nm, c, q⟩ => ?_)
  subst eh
  obtain ⟨m, hm, hb⟩ := h cdv A outer s W.h E hr avs r c
  refine ⟨RunSs (cx0 P w K mg base N qual scope f cdv A outer s W.h E) body, PSs.nox pss_run, ?_⟩
  unfold retv at hm
  split at hm
  · rename_i b
    cases hm
    refine hb.run (.ret r) rfl W W.s _ W _ (sr_start (by rw [hC _ _ c]; exact hl) pr nm) ?_
    exact fun v W' le _ rr hf => q v W' le rr hf
  · cases hm
theorem fn_ok1 {α γ : Type} [Rep α] {m : α → Option (Out β γ)} {post : γ → List SV} (F : FunD K name qual params body scope [] [] f fd) (S : FnScope N ps scope) (hl : ps.length ≤ N.length) (h1 : ps.length = 1)
    (h : ∀ (cdv : Value) (A : Around) (outer : List Env) (s : Shared) (H : Hp) (E : XK), Room k (A.deeper (envOfC qual scope s.heap.objs.size f cdv)) → ∀ a, Bs (cx0 P w K mg base N qual scope f cdv A outer s H E) noX ([.imm a] ++ List.replicate (N.length - 1) .any) body fr (m a) post) :
    FnOk P w K mg base CX0 (k + 1) f fd ps (spOf K fr (C1 fun a => retv (m a))) :=
  fn_ok F S hl (fun l r ⟨a, e, _⟩ => by rw [e, h1]; rfl) fun cdv A outer s H E hr l r ⟨a, e, hm⟩ => by
    subst e
    exact ⟨m a, hm, h cdv A outer s H E hr a⟩
theorem fn_ok2 {α α' γ : Type} [Rep α] [Rep α'] {m : α → α' → Option (Out β γ)} {post : γ → List SV} (F : FunD K name qual params body scope [] [] f fd) (S : FnScope N ps scope) (hl : ps.length ≤ N.length) (h1 : ps.length = 2)
    (h : ∀ (cdv : Value) (A : Around) (outer : List Env) (s : Shared) (H : Hp) (E : XK), Room k (A.deeper (envOfC qual scope s.heap.objs.size f cdv)) → ∀ a b, Bs (cx0 P w K mg base N qual scope f cdv A outer s H E) noX ([.imm a, .imm b] ++ List.replicate (N.length - 2) .any) body fr (m a b) post) :
    FnOk P w K mg base CX0 (k + 1) f fd ps (spOf K fr (C2 fun a b => retv (m a b))) :=
  fn_ok F S hl (fun l r ⟨a, b, e, _⟩ => by rw [e, h1]; rfl) fun cdv A outer s H E hr l r ⟨a, b, e, hm⟩ => by
    subst e
    exact ⟨m a b, hm, h cdv A outer s H E hr a b⟩
theorem fn_ok3 {α α' α'' γ : Type} [Rep α] [Rep α'] [Rep α''] {m : α → α' → α'' → Option (Out β γ)} {post : γ → List SV} (F : FunD K name qual params body scope [] [] f fd) (S : FnScope N ps scope) (hl : ps.length ≤ N.length) (h1 : ps.length = 3)
    (h : ∀ (cdv : Value) (A : Around) (outer : List Env) (s : Shared) (H : Hp) (E : XK), Room k (A.deeper (envOfC qual scope s.heap.objs.size f cdv)) → ∀ a b c, Bs (cx0 P w K mg base N qual scope f cdv A outer s H E) noX ([.imm a, .imm b, .imm c] ++ List.replicate (N.length - 3) .any) body fr (m a b c) post) :
    FnOk P w K mg base CX0 (k + 1) f fd ps (spOf K fr (C3 fun a b c => retv (m a b c))) :=
  fn_ok F S hl (fun l r ⟨a, b, c, e, _⟩ => by rw [e, h1]; rfl) fun cdv A outer s H E hr l r ⟨a, b, c, e, hm⟩ => by
    subst e
    exact ⟨m a b c, hm, h cdv A outer s H E hr a b c⟩
theorem fn_ok4 {α α' α'' α3 γ : Type} [Rep α] [Rep α'] [Rep α''] [Rep α3] {m : α → α' → α'' → α3 → Option (Out β γ)} {post : γ → List SV} (F : FunD K name qual params body scope [] [] f fd) (S : FnScope N ps scope) (hl : ps.length ≤ N.length) (h1 : ps.length = 4)
    (h : ∀ (cdv : Value) (A : Around) (outer : List Env) (s : Shared) (H : Hp) (E : XK), Room k (A.deeper (envOfC qual scope s.heap.objs.size f cdv)) → ∀ a b c d, Bs (cx0 P w K mg base N qual scope f cdv A outer s H E) noX ([.imm a, .imm b, .imm c, .imm d] ++ List.replicate (N.length - 4) .any) body fr (m a b c d) post) :
    FnOk P w K mg base CX0 (k + 1) f fd ps (spOf K fr (C4 fun a b c d => retv (m a b c d))) :=
  fn_ok F S hl (fun l r ⟨a, b, c, d, e, _⟩ => by rw [e, h1]; rfl) fun cdv A outer s H E hr l r ⟨a, b, c, d, e, hm⟩ => by
    subst e
    exact ⟨m a b c d, hm, h cdv A outer s H E hr a b c d⟩
theorem fn_ok5 {α α' α'' α3 α4 γ : Type} [Rep α] [Rep α'] [Rep α''] [Rep α3] [Rep α4] {m : α → α' → α'' → α3 → α4 → Option (Out β γ)} {post : γ → List SV} (F : FunD K name qual params body scope [] [] f fd) (S : FnScope N ps scope) (hl : ps.length ≤ N.length) (h1 : ps.length = 5)
    (h : ∀ (cdv : Value) (A : Around) (outer : List Env) (s : Shared) (H : Hp) (E : XK), Room k (A.deeper (envOfC qual scope s.heap.objs.size f cdv)) → ∀ a b c d e, Bs (cx0 P w K mg base N qual scope f cdv A outer s H E) noX ([.imm a, .imm b, .imm c, .imm d, .imm e] ++ List.replicate (N.length - 5) .any) body fr (m a b c d e) post) :
    FnOk P w K mg base CX0 (k + 1) f fd ps (spOf K fr (C5 fun a b c d e => retv (m a b c d e))) :=
  fn_ok F S hl (fun l r ⟨a, b, c, d, e, eq, _⟩ => by rw [eq, h1]; rfl) fun cdv A outer s H E hr l r ⟨a, b, c, d, e, eq, hm⟩ => by
    subst eq
    exact ⟨m a b c d e, hm, h cdv A outer s H E hr a b c d e⟩
end
/-! ### calls -/
section
variable {X : Cx} {ρ : List SV} {pos : Pos} {e a b c d : Expr} {es : List Expr}
/-- arguments -/
structure Ag (X : Cx) (ρ : List SV) (es : List Expr) (o : Option (List SV)) : Prop where
  run : ∀ l, o = some l → (∀ x ∈ l, ¬ x.isMut) ∧ ∀ (We : Wd) (B : Hp) (σ : L2.St) (W : Wd) (Q : List V → Hp → Prop), SR X.K We B ρ σ W → (∀ vs W', W.Le W' → AR X.K W' vs l → Q vs W'.h) → RunA X es σ W.h Q
theorem ag_nil : Ag X ρ [] (some []) := .mk fun l hl => by
  cases hl
  exact ⟨fun x hx => (by cases hx), fun We B σ W Q S k => useA pa_nil (k [] W (.refl W) .nil)⟩
theorem settled_mono {K : PySem.W.Frag} {W W' : Wd} {v : V} {x : SV} (le : W.Le W') (h : SV.settled K W v x) : SV.settled K W' v x := by
  match x, h with
  | .any, _ => trivial
  | @SV.imm _ ii a, h => exact ii.mono le.s h
def oarg {α : Type} [Rep α] (x : Option α) (l : Option (List SV)) : Option (List SV) := x.bind fun a => l.bind fun r => some (.imm a :: r)
theorem ag_cons {α : Type} [Rep α] {oa : Option α} {os : Option (List SV)} (ha : Ep X ρ a oa) (hs : Ag X ρ es os) (hst : NS X a := by intro _; rfl) : Ag X ρ (a :: es) (oarg oa os) := .mk fun l hl => by
  obtain ⟨x, hx, hl⟩ := bind_some hl
  obtain ⟨r, hr, hl⟩ := bind_some hl
  cases hl
  obtain ⟨h1, h2⟩ := hs.run r hr
  refine ⟨fun y hy => ?_, fun We B σ W Q S k => useA (pa_cons pe_run pa_run (hst _)) (ha.run x hx We B σ W _ S fun v W1 l1 r1 => h2 We B σ W1 _ (S.mono l1) fun us W2 l2 r2 => ?_)⟩
  · rcases List.mem_cons.mp hy with e | hy
    · subst e
      exact fun z => z
    · exact h1 y hy
  · exact k (v :: us) W2 (l1.trans l2) (.cons (Rep.mono l2.s r1) r2)
theorem run_call {β : Type} [Rep β] {fr : Bool} {C : List SV → β → Prop} {k : Nat} {f : Addr} {fd : FuncData} {ps : List Str} {x : Str} {p1 : Pos} {o : Option (List SV)}
    (F : FnOk X.prog X.w X.K X.mg X.base CX0 k f fd ps (spOf X.K fr C)) (hr : Room k X.A) (hg : Gl X x) (hm : X.mg x = some (.ref f)) (hk : PySem.W.keepIn X.K (.ref f) = true) (hb : Binds X.K fd ps [])
    (ha : Ag X ρ (a :: es) o) (hst : NS X a) (hd : (x == ("__debug__" : Str)) = false) (hpl : (backTo pos (starEach es X.env)).any (·.1) = false) {r : β} {l : List SV} (hl : o = some l) (hc : C l r) {We : Wd} {B : Hp} {σ : L2.St} {W : Wd} {Q : VK} (S : SR X.K We B ρ σ W)
    (q : ∀ v W', W.Le W' → rel X.K W'.s v r → (fr = true → ∃ p, v = .ref p ∧ fre W.h p) → Q v W'.h) : RunE X (.Call (.Name x p1) (a :: es) [] pos) σ W.h Q := by
  obtain ⟨nm, h2⟩ := ha.run l hl
  refine useE (pe_call F hr hg hm hk hb .nil (E := E0) pass0 pa_run hd (hst _) hpl) (h2 We B σ W _ S fun vs W1 l1 pr => ?_)
  refine ⟨W1, l, r, rfl, by rw [List.append_nil]; exact pr, nm, hc, fun v W2 l2 r2 hf => q v W2 (l1.trans l2) r2 fun z => ?_⟩
  obtain ⟨p, e1, e2⟩ := hf z
  exact ⟨p, e1, l1.h.back e2⟩
theorem ep_call {β : Type} [Rep β] {fr : Bool} {C : List SV → β → Prop} {k : Nat} {f : Addr} {fd : FuncData} {ps : List Str} {x : Str} {p1 : Pos} {o : Option (List SV)} {ob : Option β}
    (F : FnOk X.prog X.w X.K X.mg X.base CX0 k f fd ps (spOf X.K fr C)) (hr : Room k X.A) (hg : Gl X x) (hm : X.mg x = some (.ref f)) (hk : PySem.W.keepIn X.K (.ref f) = true) (hb : Binds X.K fd ps [])
    (ha : Ag X ρ (a :: es) o) (hC : ∀ r, ob = some r → ∃ l, o = some l ∧ C l r) (hst : NS X a := by intro _; rfl) (hd : (x == ("__debug__" : Str)) = false := by decide) (hpl : (backTo pos (starEach es X.env)).any (·.1) = false := by rfl) :
    Ep X ρ (.Call (.Name x p1) (a :: es) [] pos) ob := .mk fun r hr' We B σ W Q S q => by
  obtain ⟨l, hl, hc⟩ := hC r hr'
  exact run_call F hr hg hm hk hb ha hst hd hpl hl hc S fun v W' le rr _ => q v W' le rr
theorem ep_callF {β : Type} [Rep β] {C : List SV → List β → Prop} {k : Nat} {f : Addr} {fd : FuncData} {ps : List Str} {x : Str} {p1 : Pos} {o : Option (List SV)} {ob : Option (List β)}
    (F : FnOk X.prog X.w X.K X.mg X.base CX0 k f fd ps (spOf X.K true C)) (hr : Room k X.A) (hg : Gl X x) (hm : X.mg x = some (.ref f)) (hk : PySem.W.keepIn X.K (.ref f) = true) (hb : Binds X.K fd ps [])
    (ha : Ag X ρ (a :: es) o) (hC : ∀ r, ob = some r → ∃ l, o = some l ∧ C l r) (hst : NS X a := by intro _; rfl) (hd : (x == ("__debug__" : Str)) = false := by decide) (hpl : (backTo pos (starEach es X.env)).any (·.1) = false := by rfl) :
    EpF X ρ (.Call (.Name x p1) (a :: es) [] pos) ob := .mk fun r hr' We B σ W Q S q => by
  obtain ⟨l, hl, hc⟩ := hC r hr'
  refine run_call F hr hg hm hk hb ha hst hd hpl hl hc S fun v W' le ⟨p, vs, e1, e2, r2⟩ hf => ?_
  obtain ⟨p', e3, e4⟩ := hf rfl
  rw [e1] at e3
  cases e3
  subst e1
  exact q p vs W' le e4 e2 r2
theorem c1 {α β : Type} [Rep α] {m : α → Option β} {oa : Option α} : ∀ r, oa.bind m = some r → ∃ l, oarg oa (some []) = some l ∧ C1 m l r := fun r h => by
  obtain ⟨x, rfl, h⟩ := bind_some h
  exact ⟨_, rfl, x, rfl, h⟩
theorem c2 {α α' β : Type} [Rep α] [Rep α'] {m : α → α' → Option β} {oa : Option α} {ob : Option α'} : ∀ r, bind2 oa ob m = some r → ∃ l, oarg oa (oarg ob (some [])) = some l ∧ C2 m l r := fun r h => by
  obtain ⟨x, y, rfl, rfl, h⟩ := bind2_some h
  exact ⟨_, rfl, x, y, rfl, h⟩
def bind3 {α β γ δ : Type} (oa : Option α) (ob : Option β) (oc : Option γ) (f : α → β → γ → Option δ) : Option δ := oa.bind fun x => ob.bind fun y => oc.bind fun z => f x y z
def bind4 {α β γ δ ε : Type} (oa : Option α) (ob : Option β) (oc : Option γ) (od : Option δ) (f : α → β → γ → δ → Option ε) : Option ε := oa.bind fun x => ob.bind fun y => oc.bind fun z => od.bind fun u => f x y z u
def bind5 {α β γ δ ε ζ : Type} (oa : Option α) (ob : Option β) (oc : Option γ) (od : Option δ) (oe : Option ε) (f : α → β → γ → δ → ε → Option ζ) : Option ζ := oa.bind fun x => ob.bind fun y => oc.bind fun z => od.bind fun u => oe.bind fun v => f x y z u v
theorem c3 {α α' α'' β : Type} [Rep α] [Rep α'] [Rep α''] {m : α → α' → α'' → Option β} {oa : Option α} {ob : Option α'} {oc : Option α''} : ∀ r, bind3 oa ob oc m = some r → ∃ l, oarg oa (oarg ob (oarg oc (some []))) = some l ∧ C3 m l r := fun r h => by
  obtain ⟨x, rfl, h1⟩ := bind_some h
  obtain ⟨y, rfl, h2⟩ := bind_some h1
  obtain ⟨z, rfl, h3⟩ := bind_some h2
  exact ⟨_, rfl, x, y, z, rfl, h3⟩
theorem c4 {α α' α'' α3 β : Type} [Rep α] [Rep α'] [Rep α''] [Rep α3] {m : α → α' → α'' → α3 → Option β} {oa : Option α} {ob : Option α'} {oc : Option α''} {od : Option α3} : ∀ r, bind4 oa ob oc od m = some r → ∃ l, oarg oa (oarg ob (oarg oc (oarg od (some [])))) = some l ∧ C4 m l r := fun r h => by
  obtain ⟨x, rfl, h1⟩ := bind_some h
  obtain ⟨y, rfl, h2⟩ := bind_some h1
  obtain ⟨z, rfl, h3⟩ := bind_some h2
  obtain ⟨u, rfl, h4⟩ := bind_some h3
  exact ⟨_, rfl, x, y, z, u, rfl, h4⟩
theorem c5 {α α' α'' α3 α4 β : Type} [Rep α] [Rep α'] [Rep α''] [Rep α3] [Rep α4] {m : α → α' → α'' → α3 → α4 → Option β} {oa : Option α} {ob : Option α'} {oc : Option α''} {od : Option α3} {oe : Option α4} : ∀ r, bind5 oa ob oc od oe m = some r → ∃ l, oarg oa (oarg ob (oarg oc (oarg od (oarg oe (some []))))) = some l ∧ C5 m l r := fun r h => by
  obtain ⟨x, rfl, h1⟩ := bind_some h
  obtain ⟨y, rfl, h2⟩ := bind_some h1
  obtain ⟨z, rfl, h3⟩ := bind_some h2
  obtain ⟨u, rfl, h4⟩ := bind_some h3
  obtain ⟨t, rfl, h5⟩ := bind_some h4
  exact ⟨_, rfl, x, y, z, u, t, rfl, h5⟩
end
/-! ### comprehensions -/
def lcM {α β : Type} (c : α → Option Bool) (f : α → Option β) : List α → Option (List β)
  | [] => some []
  | x :: r => (c x).bind fun b => if b then (f x).bind fun y => (lcM c f r).bind fun ys => some (y :: ys) else lcM c f r
def wipeS (ρ : List SV) : List Nat → List SV
  | [] => ρ
  | v :: vs => (wipeS ρ vs).set v .any
theorem SR.wipe {K : PySem.W.Frag} {We W : Wd} {B : Hp} {ρ : List SV} {σ : L2.St} (S : SR K We B ρ σ W) : ∀ vs : List Nat, SR K We B (wipeS ρ vs) (L2.wipe σ vs) W
  | [] => S
  | v :: vs => (SR.wipe S vs).setAny (.refl W)
section
variable {X : Cx} {ρ : List SV} {pos : Pos} {elt tg iter : Expr} {ifs : List Expr} {scope : Scope}
theorem wipe_twice (σ : L2.St) (vs : List Nat) : L2.wipe (L2.wipe σ vs) vs = L2.wipe σ vs := by
  apply List.ext_getElem?
  intro i
  rw [wipe_get, wipe_get, wipe_length]
  by_cases hi : i ∈ vs
  · rw [if_pos hi, if_pos hi]
  · rw [if_neg hi, if_neg hi]
/-- the turns of a comprehension: what stands between them -/
def LcP (K : PySem.W.Frag) (We : Wd) (B : Hp) (ρ : List SV) (σ : L2.St) (W1 : Wd) (D : Addr) {α β : Type} [Rep β] (c : α → Option Bool) (f : α → Option β) (xs : List α) (all : List β) (i : Nat) (H : Hp) : Prop :=
  ∃ (W' : Wd) (vs : List V) (ys zs : List β), H = W'.h ∧ W1.Le W' ∧ W'.s D = none ∧ W'.h D = some (.lst vs) ∧ Paired (fun v x => rel K W'.s v x) vs ys ∧ vs.length ≤ i ∧ lcM c f (xs.drop i) = some zs ∧ all = ys ++ zs
theorem lcp_start {K : PySem.W.Frag} {We W1 : Wd} {B : Hp} {σ : L2.St} {D : Addr} {α β : Type} [Rep β] {c : α → Option Bool} {f : α → Option β} {xs : List α} {all : List β} (hD : W1.h D = none) (h : lcM c f xs = some all) : LcP K We B ρ σ W1 D c f xs all 0 (upd W1.h D (.lst [])) := by
  exact ⟨W1.upH D (.lst []) (ex_back W1.e hD) (fun o e => by rw [hD] at e; cases e), [], [], all, rfl, ⟨Ex.refl _, Eh.of (Ex.new hD), fun _ _ _ _ h => h⟩, ex_back W1.e hD, upd_same, .nil, Nat.le_refl _, h, rfl⟩
theorem lcp_turn {K : PySem.W.Frag} {We W1 : Wd} {B : Hp} {σ : L2.St} {D : Addr} {α β : Type} [Rep β] {c : α → Option Bool} {f : α → Option β} {xs : List α} {all : List β} {x : α} {i : Nat} {H : Hp} {vs : List Nat} {js : List Nat} {up : α → List SV → List SV} {g : TG} {tt : TT} {te : TE} {v : V}
    (hD : W1.h D = none) (hx : xs[i]? = some x) (hcap : capOk xs.length = true) (S : SR K We B ρ σ W1) [Rep α] (rx : rel K W1.s v x) (ht : TgR K g js up) (hjs : ∀ j ∈ js, j ∈ vs)
    (hts : ∀ b, c x = some b → ∀ (We : Wd) (B : Hp) (σ : L2.St) (W : Wd) (Q : Bool → Hp → Prop), SR K We B (up x (wipeS ρ vs)) σ W → (∀ W', W.Le W' → Q b W'.h) → tt σ W.h Q)
    (hes : ∀ y, f x = some y → ∀ (We : Wd) (B : Hp) (σ : L2.St) (W : Wd) (Q : VK), SR K We B (up x (wipeS ρ vs)) σ W → (∀ u W', W.Le W' → rel K W'.s u y → Q u W'.h) → te σ W.h Q)
    (p : LcP K We B ρ σ W1 D c f xs all i H) : g v (L2.wipe σ vs) H fun σ2 H2 => L2.wipe σ2 vs = L2.wipe σ vs ∧ tt σ2 H2 fun b H3 =>
      if b = true then te σ2 H3 fun y H4 => ∃ acc, H4 D = some (.lst acc) ∧ acc.length < sizeLine ∧ LcP K We B ρ σ W1 D c f xs all (i + 1) (upd H4 D (.lst (acc ++ [y]))) else LcP K We B ρ σ W1 D c f xs all (i + 1) H3 := by
  obtain ⟨W', us, ys, zs, rfl, l1, n1, h1, r1, hl, hm, rfl⟩ := p
  rw [drop_get hx] at hm
  obtain ⟨b, hb, hm⟩ := bind_some hm
  have hi : i < xs.length := (List.getElem?_eq_some_iff.mp hx).1
  have S' := (S.mono l1).wipe vs
  refine ht.run x We B _ _ W' v _ S' (Rep.mono l1.s rx) fun σ2 S2 hw => ⟨?_, ?_⟩
  · rw [hw vs hjs]
    exact wipe_twice σ vs
  · refine hts b hb We B σ2 W' _ S2 fun W3 l3 => ?_
    cases b with
    | false => exact iteF ⟨W3, us, ys, zs, rfl, l1.trans l3, l3.f D _ h1 rfl n1, l3.h _ _ h1 rfl, pmono (fun _ _ h => Rep.mono l3.s h) r1, by omega, hm, rfl⟩
    | true =>
      rw [if_pos rfl] at hm
      obtain ⟨y, hy, hm⟩ := bind_some hm
      obtain ⟨zs', hz, hm⟩ := bind_some hm
      cases hm
      refine iteT (hes y hy We B σ2 W3 _ (S2.mono l3) fun u W4 l4 r4 => ⟨us, l4.h _ _ (l3.h _ _ h1 rfl) rfl, ?_, ?_⟩)
      · refine Nat.lt_of_le_of_lt ?_ (cap_lt hcap)
        omega
      · have n4 : W4.s D = none := l4.f D _ (l3.h _ _ h1 rfl) rfl (l3.f D _ h1 rfl n1)
        have l14 := (l1.trans l3).trans l4
        refine ⟨W4.upH D (.lst (us ++ [u])) n4 (fun o e => by rw [l4.h _ _ (l3.h _ _ h1 rfl) rfl] at e; cases e; rfl), us ++ [u], ys ++ [y], zs', rfl, ⟨l14.s, fun q o hq hno => ?_, l14.f⟩, n4, upd_same, papp (pmono (fun _ _ h => Rep.mono (l3.trans l4).s h) r1) (.cons r4 .nil), ?_, hz, ?_⟩
        · show upd W4.h D _ q = some o
          rw [upd_ne (fun z => by subst z; rw [hD] at hq; cases hq)]
          exact l14.h q o hq hno
        · rw [List.length_append]
          exact Nat.add_le_add_right hl 1
        · rw [List.append_assoc]
          rfl
theorem lcp_end {K : PySem.W.Frag} {We W W1 : Wd} {B : Hp} {σ : L2.St} {D : Addr} {α β : Type} [Rep β] {c : α → Option Bool} {f : α → Option β} {xs : List α} {all : List β} {H : Hp} {Q : VK} (le : W.Le W1) (hD : W1.h D = none) (p : LcP K We B ρ σ W1 D c f xs all xs.length H)
    (k : ∀ p vs W', W.Le W' → fre W.h p → W'.s p = some (.lst vs) → Paired (fun v x => rel K W'.s v x) vs all → Q (.ref p) W'.h) : Q (.ref D) H := by
  obtain ⟨W', us, ys, zs, rfl, l1, n1, h1, r1, hl, hm, rfl⟩ := p
  rw [List.drop_length] at hm
  cases hm
  have ex : Ex W'.s (upd W'.s D (.lst us)) := Ex.new n1
  have l0 := le.trans l1
  have hD0 : fre W.h D := le.h.back (fre_of hD)
  refine k D us (W'.settle D (.lst us) h1 rfl) ⟨l0.s.trans ex, l0.h, fun q o h2 hno h3 => ?_⟩ hD0 upd_same (by rw [List.append_nil]; exact pmono (fun _ _ h => Rep.mono ex h) r1)
  · show upd W'.s D _ q = none
    rw [upd_ne (fun z => by subst z; exact fre_no hD0 h2 (tb_of_pl hno))]
    exact l0.f q o h2 hno h3
def tElt (X : Cx) (scope : Scope) (elt : Expr) : TE := fun σ H Q => ∀ (s : Shared) (H0 : Hp) (C : Addr) (cl : List (Str × Addr)) (fp : List Addr), RunE (X.blk s H0 scope (compEnvC scope cl C X.env) fp) elt σ H Q
/-- [elt for tg in iter if ..] computes o -/
structure LcOk (X : Cx) (ρ : List SV) (elt tg iter : Expr) (ifs : List Expr) (scope : Scope) {β : Type} [Rep β] (o : Option (List β)) : Prop where
  ex : ∃ (wi : TI) (g : TG) (tt : TT) (te : TE) (own : List (Str × Nat)), PI X tg iter wi ∧ BlkOk X.N X.env.scope scope own ∧
    (∀ (s : Shared) (H : Hp) (C : Addr) (cl : List (Str × Addr)) (fp : List Addr), PG (X.blk s H scope (compEnvC scope cl C X.env) fp) tg g) ∧
    (∀ (s : Shared) (H : Hp) (C : Addr) (cl : List (Str × Addr)) (fp : List Addr), PTs (X.blk s H scope (compEnvC scope cl C X.env) fp) ifs tt) ∧
    (∀ (s : Shared) (H : Hp) (C : Addr) (cl : List (Str × Addr)) (fp : List Addr), PE (X.blk s H scope (compEnvC scope cl C X.env) fp) elt te) ∧
    (∀ x, foldedSetIterable iter X.env x = pure x) ∧
    ∀ all, o = some all → ∀ (We : Wd) (B : Hp) (σ : L2.St) (W : Wd) (Q : VK), SR X.K We B ρ σ W → (∀ p vs W', W.Le W' → fre W.h p → W'.s p = some (.lst vs) → Paired (fun v x => rel X.K W'.s v x) vs all → Q (.ref p) W'.h) → tLc wi g tt te (own.map (·.2)) σ W.h Q
theorem LcOk.ep {β : Type} [Rep β] {o : Option (List β)} (hc : X.calm = true) (nd : X.N.Nodup) (h : LcOk X ρ elt tg iter ifs scope o) : EpF X ρ (.ListComp elt [⟨tg, iter, ifs, 0⟩] scope pos) o := .mk fun all hall We B σ W Q S k => by
  obtain ⟨wi, g, tt, te, own, h1, h2, h3, h4, h5, h6, h7⟩ := h.ex
  exact useE (pe_lc hc nd h1 h2 h3 h4 h5 h6) (h7 all hall We B σ W Q S k)
/-- iter a list -/
theorem lc_C {α β : Type} [Rep α] [Rep β] {g : TG} {js : List Nat} {up : α → List SV → List SV} {oxs : Option (List α)} {oc : α → Option Bool} {f : α → Option β} {tt : TT} (own : List (Str × Nat)) (ok : BlkOk X.N X.env.scope scope own) (hi : Lp X ρ iter oxs)
    (hg : ∀ (s : Shared) (H : Hp) (C : Addr) (cl : List (Str × Addr)) (fp : List Addr), PG (X.blk s H scope (compEnvC scope cl C X.env) fp) tg g) (ht : TgR X.K g js up) (hjs : ∀ j ∈ js, j ∈ own.map (·.2))
    (hpt : ∀ (s : Shared) (H : Hp) (C : Addr) (cl : List (Str × Addr)) (fp : List Addr), PTs (X.blk s H scope (compEnvC scope cl C X.env) fp) ifs tt)
    (hts : ∀ x b, oc x = some b → ∀ (We : Wd) (B : Hp) (σ : L2.St) (W : Wd) (Q : Bool → Hp → Prop), SR X.K We B (up x (wipeS ρ (own.map (·.2)))) σ W → (∀ W', W.Le W' → Q b W'.h) → tt σ W.h Q)
    (he : ∀ x (s : Shared) (H : Hp) (C : Addr) (cl : List (Str × Addr)) (fp : List Addr), Ep (X.blk s H scope (compEnvC scope cl C X.env) fp) (up x (wipeS ρ (own.map (·.2)))) elt (f x)) (hs : ∀ x, foldedSetIterable iter X.env x = pure x) :
    LcOk X ρ elt tg iter ifs scope (oxs.bind fun xs => if capOk xs.length then lcM oc f xs else none) := ⟨_, g, tt, tElt X scope elt, own, pi_list pe_run, ok, hg, hpt, fun s H C cl fp => ⟨fun pins s' σ' H' Q' I h => h s H C cl fp pins s' I⟩, hs, fun all hall We B σ W Q S k => by
  obtain ⟨xs, hxs, hm⟩ := bind_some hall
  split at hm
  · rename_i hcap
    refine hi.run xs hxs We B σ W _ S fun p vs W1 l1 hp r1 => ?_
    refine ⟨p, rfl, ⟨vs, .of hp⟩, fun D hD => ?_⟩
    refine lc_list (g := g) (tt := tt) (te := tElt X scope elt) (σ := σ) (vs := own.map (·.2)) (Qd := fun H => Q (.ref D) H) (xs := vs) (LcP X.K We B ρ σ W1 D oc f xs all) (lcp_start hD hm) ?_ ?_ ?_
    · rintro i H _ ⟨W', us, ys, zs, rfl, l2, _⟩
      exact .of (l2.h _ _ hp rfl)
    · intro i v H hv pv
      obtain ⟨x, hx, rx⟩ := pget' r1 hv
      exact lcp_turn hD hx hcap (S.mono l1) rx ht hjs (fun b hb => hts x b hb) (fun y hy We' B' σ' W' Q' S' k' s H0 C cl fp => (he x s H0 C cl fp).run y hy We' B' σ' W' Q' S' k') pv
    · intro H pv
      rw [plen r1] at pv
      exact lcp_end l1 hD pv k
  · cases hm⟩
/-- .. over range(n) -/
theorem lc_R {β : Type} [Rep β] {g : TG} {js : List Nat} {up : Int → List SV → List SV} {n : Expr} {p1 p2 : Pos} {on : Option Int} {oc : Int → Option Bool} {f : Int → Option β} {tt : TT} (own : List (Str × Nat)) (hgl : Gl X "range") (hm : X.mg "range" = none) (ok : BlkOk X.N X.env.scope scope own) (hi : Ep X ρ n on)
    (hg : ∀ (s : Shared) (H : Hp) (C : Addr) (cl : List (Str × Addr)) (fp : List Addr), PG (X.blk s H scope (compEnvC scope cl C X.env) fp) tg g) (ht : TgR X.K g js up) (hjs : ∀ j ∈ js, j ∈ own.map (·.2))
    (hpt : ∀ (s : Shared) (H : Hp) (C : Addr) (cl : List (Str × Addr)) (fp : List Addr), PTs (X.blk s H scope (compEnvC scope cl C X.env) fp) ifs tt)
    (hts : ∀ x b, oc x = some b → ∀ (We : Wd) (B : Hp) (σ : L2.St) (W : Wd) (Q : Bool → Hp → Prop), SR X.K We B (up x (wipeS ρ (own.map (·.2)))) σ W → (∀ W', W.Le W' → Q b W'.h) → tt σ W.h Q)
    (he : ∀ x (s : Shared) (H : Hp) (C : Addr) (cl : List (Str × Addr)) (fp : List Addr), Ep (X.blk s H scope (compEnvC scope cl C X.env) fp) (up x (wipeS ρ (own.map (·.2)))) elt (f x)) (hs : ∀ x, foldedSetIterable (.Call (.Name "range" p1) [n] [] p2) X.env x = pure x)
    (hst : NS X n) : LcOk X ρ elt tg (.Call (.Name "range" p1) [n] [] p2) ifs scope ((orng on).bind fun xs => if capOk xs.length then lcM oc f xs else none) := ⟨_, g, tt, tElt X scope elt, own, pi_range1 hgl hm (pa_cons pe_run pa_nil (hst _)) (by rw [hst]; rfl), ok, hg, hpt, fun s H C cl fp => ⟨fun pins s' σ' H' Q' I h => h s H C cl fp pins s' I⟩, hs, fun all hall We B σ W Q S k => by
  obtain ⟨xs, hxs, hm'⟩ := bind_some hall
  obtain ⟨z, hz, hxs⟩ := bind_some hxs
  split at hxs
  · rename_i hok
    cases hxs
    unfold rngOk at hok
    simp only [Bool.and_eq_true, decide_eq_true_eq] at hok
    split at hm'
    · rename_i hcap
      refine hi.run z hz We B σ W _ S fun v W1 l1 r1 => ?_
      cases r1
      refine ⟨z, rfl, by omega, by omega, fun D hD => ?_⟩
      refine lc_range (g := g) (tt := tt) (te := tElt X scope elt) (σ := σ) (vs := own.map (·.2)) (Qd := fun H => Q (.ref D) H) (lo := 0) (n := z.toNat) (LcP X.K We B ρ σ W1 D oc f (rngL z) all) (lcp_start hD hm') ?_ ?_
      · intro i H hi' pv
        exact lcp_turn hD (rngL_get hi') hcap (S.mono l1) (show V.int (0 + (i : Int)) = V.int (i : Int) by rw [Int.zero_add]) ht hjs (fun b hb => hts _ b hb) (fun y hy We' B' σ' W' Q' S' k' s H0 C cl fp => (he _ s H0 C cl fp).run y hy We' B' σ' W' Q' S' k') pv
      · intro H pv
        rw [← rngL_len] at pv
        exact lcp_end l1 hD pv k
    · cases hm'
  · cases hxs⟩
/-- the tests: none, one -/
def oYes {α : Type} : α → Option Bool := fun _ => some true
theorem tts_nil {K : PySem.W.Frag} {α : Type} {ρ' : α → List SV} : ∀ (x : α) b, oYes x = some b → ∀ (We : Wd) (B : Hp) (σ : L2.St) (W : Wd) (Q : Bool → Hp → Prop), SR K We B (ρ' x) σ W → (∀ W', W.Le W' → Q b W'.h) → tYes σ W.h Q := fun x b hb We B σ W Q S k => by
  cases hb
  exact k W (.refl W)
def tOne (X : Cx) (scope : Scope) (c : Expr) : TT := fun σ H Q => ∀ (s : Shared) (H0 : Hp) (C : Addr) (cl : List (Str × Addr)) (fp : List Addr), RunT (X.blk s H0 scope (compEnvC scope cl C X.env) fp) c σ H Q
theorem pts_w {c : Expr} (s : Shared) (H : Hp) (C : Addr) (cl : List (Str × Addr)) (fp : List Addr) : PTs (X.blk s H scope (compEnvC scope cl C X.env) fp) [c] (tOne X scope c) :=
  pts_one ⟨fun pins s' σ' H' Q' I h => h s H C cl fp pins s' I⟩
theorem tts_one {α : Type} {ρ' : α → List SV} {c : Expr} {oc : α → Option Bool} (h : ∀ x (s : Shared) (H : Hp) (C : Addr) (cl : List (Str × Addr)) (fp : List Addr), Tp (X.blk s H scope (compEnvC scope cl C X.env) fp) (ρ' x) c (oc x)) :
    ∀ (x : α) b, oc x = some b → ∀ (We : Wd) (B : Hp) (σ : L2.St) (W : Wd) (Q : Bool → Hp → Prop), SR X.K We B (ρ' x) σ W → (∀ W', W.Le W' → Q b W'.h) → tOne X scope c σ W.h Q := fun x b hb We B σ W Q S k s H0 C cl fp => (h x s H0 C cl fp).run b hb We B σ W Q S k
theorem bs_asgLc {xx : Nat → Hp → Prop} {β γ δ : Type} [Rep β] [Rep δ] {fr : Bool} {post : γ → List SV} {rest : List Stmt} {o : Option (List δ)} {f : List δ → Option (Out β γ)} {x : Str} {p1 : Pos} {spos : Pos} (i : Nat) (hc : X.calm = true) (nd : X.N.Nodup) (h : LcOk X ρ elt tg iter ifs scope o) (hr : ∀ a, Bs X xx (ρ.set i (.imm a)) rest fr (f a) post)
    (hi : X.N[i]? = some x := by rfl) (hx : X.env.scope.names.lookup x = some .local := by rfl) (hsw : swapsWith (.ListComp elt [⟨tg, iter, ifs, 0⟩] scope pos) (some (.Name x p1)) spos.line X.env = pure true := by exact sw_true rfl rfl rfl (by decide +kernel)) :
    Bs X xx ρ (.Assign [.Name x p1] (.ListComp elt [⟨tg, iter, ifs, 0⟩] scope pos) spos :: rest) fr (o.bind f) post := .mk fun out ho We B σ W D S k => by
  obtain ⟨y, hy, hf'⟩ := bind_some ho
  obtain ⟨wi, g, tt, te, own, h1, h2, h3, h4, h5, h6, h7⟩ := h.ex
  refine useSs (pss_cons (ps_setLc hc nd hi hx hsw h1 h2 h3 h4 h5 h6) pss_run) ?_
  show tLc wi g tt te (own.map (·.2)) σ W.h (fun x H1 => RunSs X rest D (σ.set i (some x)) H1)
  refine h7 y hy We B σ W _ S fun p vs W1 l1 hn hp r1 => ?_
  exact (hr y).run out hf' We B _ W1 D (S.set l1 ⟨p, vs, rfl, hp, r1⟩) k
theorem bs_asgLcM {xx : Nat → Hp → Prop} {β γ δ : Type} [Rep β] [Flat δ] {fr : Bool} {post : γ → List SV} {rest : List Stmt} {o : Option (List δ)} {f : List δ → Option (Out β γ)} {x : Str} {p1 : Pos} {spos : Pos} (i : Nat) (hc : X.calm = true) (nd : X.N.Nodup) (h : LcOk X ρ elt tg iter ifs scope o) (hr : ∀ a, Bs X xx (ρ.set i (.mut (ML.mk a))) rest fr (f a) post)
    (hi : X.N[i]? = some x := by rfl) (hx : X.env.scope.names.lookup x = some .local := by rfl) (hsw : swapsWith (.ListComp elt [⟨tg, iter, ifs, 0⟩] scope pos) (some (.Name x p1)) spos.line X.env = pure true := by exact sw_true rfl rfl rfl (by decide +kernel)) :
    Bs X xx ρ (.Assign [.Name x p1] (.ListComp elt [⟨tg, iter, ifs, 0⟩] scope pos) spos :: rest) fr (o.bind f) post := .mk fun out ho We B σ W D S k => by
  obtain ⟨y, hy, hf'⟩ := bind_some ho
  obtain ⟨wi, g, tt, te, own, h1, h2, h3, h4, h5, h6, h7⟩ := h.ex
  refine useSs (pss_cons (ps_setLc hc nd hi hx hsw h1 h2 h3 h4 h5 h6) pss_run) ?_
  show tLc wi g tt te (own.map (·.2)) σ W.h (fun x H1 => RunSs X rest D (σ.set i (some x)) H1)
  refine h7 y hy We B σ W _ S fun p vs W1 l1 hn hp r1 => ?_
  obtain ⟨W2, e2, S2⟩ := S.newM (i := i) l1 hn hp r1
  have z := (hr y).run out hf' We B _ W2 D S2 k
  rw [e2] at z
  exact z
theorem bs_none {xx : Nat → Hp → Prop} {β γ : Type} [Rep β] {fr : Bool} {post : γ → List SV} {st : List Stmt} : Bs X xx ρ st (β := β) fr none post := .mk fun out ho => by cases ho
/-- a, b = e1, e2 -/
theorem bs_par {xx : Nat → Hp → Prop} {β γ α α' : Type} [Rep β] [Rep α] [Rep α'] {fr : Bool} {post : γ → List SV} {rest : List Stmt} {a b : Expr} {oa : Option α} {ob : Option α'} {f : α → α' → Option (Out β γ)} {x y : Str} {px py pt : Pos} {kt k2 pt2} (i j : Nat) (hc : X.calm = true) (nd : X.N.Nodup)
    (ha : Ep X ρ a oa) (hb : Ep X ρ b ob) (hr : ∀ u v, Bs X xx ((ρ.set i (.imm u)).set j (.imm v)) rest fr (f u v) post) (hi : X.N[i]? = some x := by rfl) (hj : X.N[j]? = some y := by rfl) (hij : i ≠ j := by decide)
    (hx : X.env.scope.names.lookup x = some .local := by rfl) (hy : X.env.scope.names.lookup y = some .local := by rfl) (hw : swappedStores [.Tuple [.Name x px, .Name y py] kt pt] (.Tuple [a, b] k2 pt2) X.env = pure (some [x, y]) := by rfl)
    (hs : swapsWithSole [.Tuple [.Name x px, .Name y py] kt pt] (.Tuple [a, b] k2 pt2) pos.line X.env = pure false := by rfl) (na : NS X a := by intro _; rfl) (nb : NS X b := by intro _; rfl) :
    Bs X xx ρ (.Assign [.Tuple [.Name x px, .Name y py] kt pt] (.Tuple [a, b] k2 pt2) pos :: rest) fr (bind2 oa ob f) post := .mk fun out ho We B σ W D S k => by
  obtain ⟨u, v, hu, hv, hf⟩ := bind2_some ho
  refine useSs (pss_cons (ps_par hc nd hi hj hij hx hy (pa_cons pe_run (pa_cons pe_run pa_nil (nb _)) (na _)) hw hs) pss_run) (ha.run u hu We B σ W _ S fun z W1 l1 r1 => hb.run v hv We B σ W1 _ (S.mono l1) fun z2 W2 l2 r2 => ?_)
  exact ⟨z, z2, rfl, (hr u v).run out hf We B _ W2 D ((S.set (l1.trans l2) (Rep.mono l2.s r1)).set (.refl W2) r2) k⟩
end
end T
/-! typed layer, fifth part: data compared, built-ins, the script, defs known by name -/
namespace T
open PySem PySem.Spec PyProof.Rows L2
open Evl (Ex)
open Rep (rel)

/-! ### data -/
class Dat (α : Type) extends Rep α where
  toD : α → PyData
  dp : ∀ {K : PySem.W.Frag} {H : Hp} {v : V} {a : α}, rel K H v a → Dp K H v (toD a)
  lay : ∀ a, (toD a).canLay0 = true
  deep : Nat
  dep : ∀ a, (toD a).depth ≤ deep
  eqv : ∀ a b, PyData.eqv (toD a) (toD b) = true ↔ a = b
theorem eqv_dec {α : Type} [Dat α] [DecidableEq α] (a b : α) : PyData.eqv (Dat.toD a) (Dat.toD b) = decide (a = b) := by
  by_cases h : a = b
  · rw [decide_eq_true h]
    exact (Dat.eqv a b).mpr h
  · rw [decide_eq_false h]
    cases e : PyData.eqv (Dat.toD a) (Dat.toD b) with
    | false => rfl
    | true => exact absurd ((Dat.eqv a b).mp e) h
theorem shaped_of {α : Type} [Dat α] (h : Dat.deep α ≤ 64) (a : α) : SeqAt.shaped (Dat.toD a) = true := by
  unfold SeqAt.shaped
  rw [Dat.lay a, Bool.true_and]
  exact decide_eq_true (Nat.le_trans (Dat.dep a) h)
instance : Dat Int where
  toD := .int
  dp := fun h => by
    cases h
    exact .int _
  lay := fun _ => rfl
  deep := 0
  dep := fun _ => Nat.le_refl _
  eqv := fun a b => by
    show (a == b) = true ↔ _
    exact beq_iff_eq
instance : Dat Bool where
  toD := .bool
  dp := fun h => by
    cases h
    exact .bl _
  lay := fun _ => rfl
  deep := 0
  dep := fun _ => Nat.le_refl _
  eqv := fun a b => by
    show (a == b) = true ↔ _
    exact beq_iff_eq
theorem max_le' {a b c : Nat} (h1 : a ≤ c) (h2 : b ≤ c) : max a b ≤ c := by omega
theorem canLay_tuple (xs : List PyData) : (PyData.tuple xs).canLay0 = PyData.canLayAll0 xs := by simp only [PyData.canLay0]
theorem canLay_list (xs : List PyData) : (PyData.list xs).canLay0 = PyData.canLayAll0 xs := by simp only [PyData.canLay0]
theorem canLayAll_cons (x : PyData) (xs : List PyData) : PyData.canLayAll0 (x :: xs) = (x.canLay0 && PyData.canLayAll0 xs) := by simp only [PyData.canLayAll0]
theorem canLayAll_nil : PyData.canLayAll0 [] = true := by simp only [PyData.canLayAll0]
theorem depth_tuple (xs : List PyData) : (PyData.tuple xs).depth = PyData.depthAll xs + 1 := by simp only [PyData.depth]
theorem depth_list (xs : List PyData) : (PyData.list xs).depth = PyData.depthAll xs + 1 := by simp only [PyData.depth]
theorem depthAll_cons (x : PyData) (xs : List PyData) : PyData.depthAll (x :: xs) = max x.depth (PyData.depthAll xs) := by simp only [PyData.depthAll]
theorem depthAll_nil : PyData.depthAll [] = 0 := by simp only [PyData.depthAll]
theorem eqv_tuple (xs ys : List PyData) : PyData.eqv (.tuple xs) (.tuple ys) = PyData.eqvAll xs ys := by simp only [PyData.eqv]
theorem eqv_list (xs ys : List PyData) : PyData.eqv (.list xs) (.list ys) = PyData.eqvAll xs ys := by simp only [PyData.eqv]
theorem eqvAll_cons (x y : PyData) (xs ys : List PyData) : PyData.eqvAll (x :: xs) (y :: ys) = (PyData.eqv x y && PyData.eqvAll xs ys) := by simp only [PyData.eqvAll]
theorem eqvAll_nil : PyData.eqvAll [] [] = true := by simp only [PyData.eqvAll]
instance {α β : Type} [Dat α] [Dat β] : Dat (α × β) where
  toD := fun p => .tuple [Dat.toD p.1, Dat.toD p.2]
  dp := fun h => by
    obtain ⟨p, x, y, rfl, h2, h3, h4⟩ := h
    exact .tup (.of h2) (.cons (Dat.dp h3) (.cons (Dat.dp h4) .nil))
  lay := fun a => by rw [canLay_tuple, canLayAll_cons, canLayAll_cons, canLayAll_nil, Dat.lay, Dat.lay]; rfl
  deep := max (Dat.deep α) (Dat.deep β) + 1
  dep := fun a => by
    rw [depth_tuple, depthAll_cons, depthAll_cons, depthAll_nil]
    have h1 := Dat.dep a.1
    have h2 := Dat.dep a.2
    omega
  eqv := fun a b => by
    rw [eqv_tuple, eqvAll_cons, eqvAll_cons, eqvAll_nil, Bool.and_true, Bool.and_eq_true, Dat.eqv, Dat.eqv]
    exact (Prod.ext_iff).symm
instance : Dat Tri where
  toD := fun t => .tuple [.int t.a, .int t.b, .int t.c]
  dp := fun h => by
    obtain ⟨p, rfl, h2⟩ := h
    exact .tup h2.sq (.cons (.int _) (.cons (.int _) (.cons (.int _) .nil)))
  lay := fun a => rfl
  deep := 1
  dep := fun a => by
    rw [depth_tuple, depthAll_cons, depthAll_cons, depthAll_cons, depthAll_nil]
    simp only [PyData.depth]
    decide
  eqv := fun a b => by
    rw [eqv_tuple, eqvAll_cons, eqvAll_cons, eqvAll_cons, eqvAll_nil]
    simp only [PyData.eqv, Bool.and_true, Bool.and_eq_true, beq_iff_eq]
    constructor
    · rintro ⟨h1, h2, h3⟩
      cases a
      cases b
      simp at h1 h2 h3
      rw [h1, h2, h3]
    · rintro rfl
      exact ⟨rfl, rfl, rfl⟩
theorem dpAll_of {α : Type} [Dat α] {K : PySem.W.Frag} {H : Hp} : ∀ {vs : List V} {xs : List α}, Paired (fun v x => rel K H v x) vs xs → DpAll K H vs (xs.map Dat.toD)
  | _, _, .nil => .nil
  | _, _, .cons r t => .cons (Dat.dp r) (dpAll_of t)
theorem layAll_map {α : Type} [Dat α] : ∀ xs : List α, PyData.canLayAll0 (xs.map Dat.toD) = true
  | [] => canLayAll_nil
  | x :: xs => by
    rw [List.map_cons, canLayAll_cons, Dat.lay, layAll_map xs]
    rfl
theorem depAll_map {α : Type} [Dat α] : ∀ xs : List α, PyData.depthAll (xs.map Dat.toD) ≤ Dat.deep α
  | [] => by rw [List.map_nil, depthAll_nil]; exact Nat.zero_le _
  | x :: xs => by
    rw [List.map_cons, depthAll_cons]
    exact max_le' (Dat.dep x) (depAll_map xs)
theorem eqvAll_map {α : Type} [Dat α] : ∀ xs ys : List α, PyData.eqvAll (xs.map Dat.toD) (ys.map Dat.toD) = true ↔ xs = ys
  | [], [] => by simp [eqvAll_nil]
  | [], _ :: _ => by simp [PyData.eqvAll]
  | _ :: _, [] => by simp [PyData.eqvAll]
  | x :: xs, y :: ys => by
    rw [List.map_cons, List.map_cons, eqvAll_cons, Bool.and_eq_true, Dat.eqv, eqvAll_map xs ys, List.cons.injEq]
instance {α : Type} [Dat α] : Dat (List α) where
  toD := fun xs => .list (xs.map Dat.toD)
  dp := fun h => by
    obtain ⟨p, vs, rfl, h2, h3⟩ := h
    exact .lst (.of h2) (dpAll_of h3)
  lay := fun xs => by rw [canLay_list]; exact layAll_map xs
  deep := Dat.deep α + 1
  dep := fun xs => by
    rw [depth_list]
    exact Nat.succ_le_succ (depAll_map xs)
  eqv := fun xs ys => by
    rw [eqv_list]
    exact eqvAll_map xs ys
mutual
theorem dpm {K : PySem.W.Frag} {H H' : Hp} (e : Ex H H') : ∀ (d : PyData) (v : V), Dp K H v d → Dp K H' v d
  | .none, _, h => by
    cases h
    exact .non
  | .bool b, _, h => by
    cases h
    exact .bl _
  | .int i, _, h => by
    cases h
    exact .int _
  | .str x, _, h => by
    cases h
    exact .str _
  | .list ds, _, h => by
    cases h with
    | lst h1 h2 => exact .lst (Evl.ex_l e h1) (dpmA e ds _ h2)
  | .tuple ds, _, h => by
    cases h with
    | tup h1 h2 => exact .tup (Evl.ex_t e h1) (dpmA e ds _ h2)
  | .dict _, _, h => by cases h
theorem dpmA {K : PySem.W.Frag} {H H' : Hp} (e : Ex H H') : ∀ (ds : List PyData) (vs : List V), DpAll K H vs ds → DpAll K H' vs ds
  | [], _, h => by
    cases h
    exact .nil
  | d :: ds, _, h => by
    cases h with
    | cons h1 h2 => exact .cons (dpm e d _ h1) (dpmA e ds _ h2)
end
theorem Dp.mono' {K : PySem.W.Frag} {H H' : Hp} (e : Ex H H') (d : PyData) (v : V) (h : Dp K H v d) : Dp K H' v d := dpm e d v h
variable [Tb]
section
variable {X : Cx} {ρ : List SV} {pos : Pos} {e a b c d : Expr}
/-- == and != of data -/
theorem cq_eqD {α : Type} [Dat α] [DecidableEq α] {oa ob : Option α} (hu : X.A.units + 64 < cLine) (ha : Ep X ρ a oa) (hb : Ep X ρ b ob) (hd : Dat.deep α ≤ 64 := by decide) : Cq X ρ .Eq a b (oeq oa ob) := cq_mk (op_eqD hu) (nomark _) (fun x y z W v u Q hf h1 h2 k => by
  cases hf
  exact ⟨_, _, Dp.mono' W.e _ _ (Dat.dp h1), Dp.mono' W.e _ _ (Dat.dp h2), shaped_of hd x, shaped_of hd y, k _ W (.refl W) (by rw [eqv_dec] <;> rfl)⟩) ha hb
theorem cq_neD {α : Type} [Dat α] [DecidableEq α] {oa ob : Option α} (hu : X.A.units + 64 < cLine) (ha : Ep X ρ a oa) (hb : Ep X ρ b ob) (hd : Dat.deep α ≤ 64 := by decide) : Cq X ρ .NotEq a b (one_ oa ob) := cq_mk (op_neD hu) (nomark _) (fun x y z W v u Q hf h1 h2 k => by
  cases hf
  exact ⟨_, _, Dp.mono' W.e _ _ (Dat.dp h1), Dp.mono' W.e _ _ (Dat.dp h2), shaped_of hd x, shaped_of hd y, k _ W (.refl W) (by rw [eqv_dec] <;> rfl)⟩) ha hb
/-- x in list, x not in list -/
def oin {α : Type} [DecidableEq α] (x : Option α) (l : Option (List α)) : Option Bool := bind2 x l fun a xs => some (decide (a ∈ xs))
def onin {α : Type} [DecidableEq α] (x : Option α) (l : Option (List α)) : Option Bool := bind2 x l fun a xs => some (!decide (a ∈ xs))
theorem any_eqv {α : Type} [Dat α] [DecidableEq α] (x : α) : ∀ xs : List α, ((xs.map Dat.toD).any fun z => PyData.eqv z (Dat.toD x)) = decide (x ∈ xs)
  | [] => by simp
  | y :: ys => by
    rw [List.map_cons, List.any_cons, any_eqv x ys, eqv_dec]
    by_cases h : y = x
    · subst h
      simp
    · have h' : ¬ x = y := fun z => h z.symm
      rw [decide_eq_false h, Bool.false_or]
      simp [h']
theorem cq_inX {α : Type} [Dat α] [DecidableEq α] {op : CmpOp} {r : R2} {neg : Bool} {oa : Option α} {ob : Option (List α)} (ho : OpR X (compareOp op) r) (hm : behindInMarks op b = false)
    (hr : ∀ x y H (Q : VK) d ds, Dp X.K H x d → Dp X.K H y (.list ds) → SeqAt.shaped d = true → SeqAt.shaped (.list ds) = true → Q (.bl (if neg then !ds.any fun z => PyData.eqv z d else ds.any fun z => PyData.eqv z d)) H → r x y H Q)
    (ha : Ep X ρ a oa) (hb : Lp X ρ b ob) (hd : Dat.deep α ≤ 63) : Cq X ρ op a b (bind2 oa ob fun a xs => some (if neg then !decide (a ∈ xs) else decide (a ∈ xs))) := by
  have key : ∀ x y, oa = some x → ob = some y → ∀ (We : Wd) (B : Hp) (σ : L2.St) (W : Wd) (Q : VK), SR X.K We B ρ σ W → (∀ W', W.Le W' → Q (.bl (if neg then !decide (x ∈ y) else decide (x ∈ y))) W'.h) → tOp r (RunE X a) (RunE X b) σ W.h Q := by
    intro x y hx hy We B σ W Q S k
    refine ha.run x hx We B σ W _ S fun v W1 l1 r1 => hb.run y hy We B σ W1 _ (S.mono l1) fun p vs W2 l2 hp r2 => ?_
    have r1' := Rep.mono l2.s r1
    refine hr _ _ _ _ _ _ (Dp.mono' W2.e _ _ (Dat.dp r1')) (.lst (.of hp) (dpAll_of (pmono (fun _ _ h => Rep.mono W2.e h) r2))) (shaped_of (Nat.le_trans hd (by decide)) x) ?_ ?_
    · exact shaped_of (α := List α) (Nat.succ_le_succ hd) y
    · rw [any_eqv]
      exact k W2 (l1.trans l2)
  refine ⟨fun pos => .mk fun z hz We B σ W Q S k => ?_, fun pos => .mk fun z hz We B σ W Q S k => ?_⟩
  · obtain ⟨x, y, hx, hy, hf⟩ := bind2_some hz
    cases hf
    exact useE (pe_cmpR ho pe_run pe_run hm) (key x y hx hy We B σ W _ S fun W' l => k _ W' l rfl)
  · obtain ⟨x, y, hx, hy, hf⟩ := bind2_some hz
    cases hf
    exact useT (pt_cmpR ho pe_run pe_run hm) (key x y hx hy We B σ W _ S fun W' l => ⟨_, rfl, k W' l⟩)
theorem cq_in {α : Type} [Dat α] [DecidableEq α] {oa : Option α} {ob : Option (List α)} (hu : X.A.units + 65 < cLine) (ha : Ep X ρ a oa) (hb : Lp X ρ b ob) (hd : Dat.deep α ≤ 63 := by decide) (hm : behindInMarks .In b = false := by rfl) : Cq X ρ .In a b (oin oa ob) :=
  cq_inX (neg := false) (op_inD hu) hm (fun x y H Q d ds h1 h2 h3 h4 q => ⟨d, ds, h1, h2, h3, h4, q⟩) ha hb hd
theorem cq_nin {α : Type} [Dat α] [DecidableEq α] {oa : Option α} {ob : Option (List α)} (hu : X.A.units + 65 < cLine) (ha : Ep X ρ a oa) (hb : Lp X ρ b ob) (hd : Dat.deep α ≤ 63 := by decide) (hm : behindInMarks .NotIn b = false := by rfl) : Cq X ρ .NotIn a b (onin oa ob) :=
  cq_inX (neg := true) (op_notInD hu) hm (fun x y H Q d ds h1 h2 h3 h4 q => ⟨d, ds, h1, h2, h3, h4, q⟩) ha hb hd
/-! built-ins -/
def ob2i (x : Option Bool) : Option Int := x.bind fun b => some (if b then 1 else 0)
theorem ep_intB {o : Option Bool} {p1 : Pos} (hg : Gl X "int") (hm : X.mg "int" = none) (ha : Ep X ρ a o) (hst : NS X a := by intro _; rfl) : Ep X ρ (.Call (.Name "int" p1) [a] [] pos) (ob2i o) := .mk fun z hz We B σ W Q S k => by
  obtain ⟨x, hx, hf⟩ := bind_some hz
  cases hf
  refine useE (pe_callTy call_int1 hg hm (by decide +kernel) (pa_cons pe_run pa_nil (hst _)) (he := hst _)) (ha.run x hx We B σ W _ S fun v W1 l1 r1 => .inr ⟨x, by rw [r1], k _ W1 l1 rfl⟩)
def oabs (x : Option Int) : Option Int := x.bind fun i => some (if i < 0 then -i else i)
theorem ep_abs {o : Option Int} {p1 : Pos} (hg : Gl X "abs") (hm : X.mg "abs" = none) (ha : Ep X ρ a o) (hst : NS X a := by intro _; rfl) : Ep X ρ (.Call (.Name "abs" p1) [a] [] pos) (oabs o) := .mk fun z hz We B σ W Q S k => by
  obtain ⟨x, hx, hf⟩ := bind_some hz
  cases hf
  refine useE (pe_callB call_abs hg hm (by decide +kernel) (pa_cons pe_run pa_nil (hst _)) (he := hst _)) (ha.run x hx We B σ W _ S fun v W1 l1 r1 => ⟨x, by rw [r1], k _ W1 l1 rfl⟩)
def omax2 (x y : Option Int) : Option Int := bind2 x y fun i j => some (if j > i then j else i)
def omin2 (x y : Option Int) : Option Int := bind2 x y fun i j => some (if j < i then j else i)
theorem ep_max2 {oa ob : Option Int} {p1 : Pos} (hc : X.calm = true) (hg : Gl X "max") (hm : X.mg "max" = none) (ha : Ep X ρ a oa) (hb : Ep X ρ b ob) (na : NS X a := by intro _; rfl) (nb : NS X b := by intro _; rfl) (hpl : (backTo pos (starEach [b] X.env)).any (·.1) = false := by rfl) :
    Ep X ρ (.Call (.Name "max" p1) [a, b] [] pos) (omax2 oa ob) := .mk fun z hz We B σ W Q S k => by
  obtain ⟨x, y, hx, hy, hf⟩ := bind2_some hz
  cases hf
  refine useE (pe_callB (call_max2 hc) hg hm (by decide +kernel) (pa_cons pe_run (pa_cons pe_run pa_nil (nb _)) (na _)) (he := na _) (hpl := hpl)) (ha.run x hx We B σ W _ S fun v W1 l1 r1 => hb.run y hy We B σ W1 _ (S.mono l1) fun u W2 l2 r2 => ⟨x, y, by rw [r1, r2], k _ W2 (l1.trans l2) rfl⟩)
theorem ep_min2 {oa ob : Option Int} {p1 : Pos} (hc : X.calm = true) (hg : Gl X "min") (hm : X.mg "min" = none) (ha : Ep X ρ a oa) (hb : Ep X ρ b ob) (na : NS X a := by intro _; rfl) (nb : NS X b := by intro _; rfl) (hpl : (backTo pos (starEach [b] X.env)).any (·.1) = false := by rfl) :
    Ep X ρ (.Call (.Name "min" p1) [a, b] [] pos) (omin2 oa ob) := .mk fun z hz We B σ W Q S k => by
  obtain ⟨x, y, hx, hy, hf⟩ := bind2_some hz
  cases hf
  refine useE (pe_callB (call_min2 hc) hg hm (by decide +kernel) (pa_cons pe_run (pa_cons pe_run pa_nil (nb _)) (na _)) (he := na _) (hpl := hpl)) (ha.run x hx We B σ W _ S fun v W1 l1 r1 => hb.run y hy We B σ W1 _ (S.mono l1) fun u W2 l2 r2 => ⟨x, y, by rw [r1, r2], k _ W2 (l1.trans l2) rfl⟩)
/-- list(a list) -/
theorem ep_list {α : Type} [Rep α] {o : Option (List α)} {p1 : Pos} (hg : Gl X "list") (hm : X.mg "list" = none) (ha : Lp X ρ a o) (hst : NS X a := by intro _; rfl) : EpF X ρ (.Call (.Name "list" p1) [a] [] pos) o := .mk fun z hz We B σ W Q S k => by
  refine useE (pe_callTy call_list_of hg hm (by decide +kernel) (pa_cons pe_run pa_nil (hst _)) (he := hst _)) (ha.run z hz We B σ W _ S fun p vs W1 l1 hp r1 => ⟨p, vs, rfl, .inl (.of hp), fun n hn => ?_⟩)
  have l2 := Wd.Le.new W1 (.lst vs) hn
  exact k n vs (W1.new n (.lst vs) hn) (l1.trans l2) (l1.h.back (fre_of hn)) upd_same (pmono (fun _ _ h => Rep.mono l2.s h) r1)
/-- all(a list of bools) -/
def oall (x : Option (List Bool)) : Option Bool := x.bind fun l => some (l.all id)
theorem bools_of {K : PySem.W.Frag} {H : Hp} : ∀ {vs : List V} {bs : List Bool}, Paired (fun v x => rel K H v x) vs bs → vs = bs.map V.bl
  | _, _, .nil => rfl
  | _, _, .cons r t => by
    cases r
    rw [bools_of t]
    rfl
theorem ints_of {K : PySem.W.Frag} {H : Hp} : ∀ {vs : List V} {bs : List Int}, Paired (fun v x => rel K H v x) vs bs → vs = bs.map V.int
  | _, _, .nil => rfl
  | _, _, .cons r t => by
    cases r
    rw [ints_of t]
    rfl
theorem ep_all {o : Option (List Bool)} {p1 : Pos} (hc : X.calm = true) (hg : Gl X "all") (hm : X.mg "all" = none) (ha : Lp X ρ a o) (hst : NS X a := by intro _; rfl) : Ep X ρ (.Call (.Name "all" p1) [a] [] pos) (oall o) := .mk fun z hz We B σ W Q S k => by
  obtain ⟨x, hx, hf⟩ := bind_some hz
  cases hf
  refine useE (pe_callB (cr_all hc) hg hm (by decide +kernel) (pa_cons pe_run pa_nil (hst _)) (he := hst _)) (ha.run x hx We B σ W _ S fun p vs W1 l1 hp r1 => ⟨p, x, rfl, .of ?_, k _ W1 l1 rfl⟩)
  rw [hp, bools_of r1]
/-! the script -/
def oslen (x : Option Script) : Option Int := x.bind fun s => some s.ns.length
def osidx (x : Option Script) (i : Option Int) : Option Int := bind2 x i fun s j => atI s.ns j
theorem ep_slen {o : Option Script} {p1 : Pos} (hg : Gl X "len") (hm : X.mg "len" = none) (ha : Ep X ρ a o) (hst : NS X a := by intro _; rfl) : Ep X ρ (.Call (.Name "len" p1) [a] [] pos) (oslen o) := .mk fun z hz We B σ W Q S k => by
  obtain ⟨x, hx, hf⟩ := bind_some hz
  cases hf
  refine useE (pe_callB call_len_seq hg hm PySem.boot_len (pa_cons pe_run pa_nil (hst _)) (he := hst _)) (ha.run x hx We B σ W _ S fun v W1 l1 ⟨p, e1, e2⟩ => ⟨p, _, by rw [e1], .inl (Evl.ex_l W1.e e2), ?_⟩)
  rw [List.length_map]
  exact k _ W1 l1 rfl
theorem ep_sidx {oa : Option Script} {ob : Option Int} (ha : Ep X ρ a oa) (hb : Ep X ρ b ob) (hs : PlainIx b := by exact fun _ _ => rfl) : Ep X ρ (.Subscript a b pos) (osidx oa ob) :=
  ep_t2 (pe_ix ix_list pe_run pe_run hs) ha hb fun x y z W v u Q hf ⟨p, e1, e2⟩ h2 k => by
    cases h2
    refine ⟨p, _, y, V.int z, e1, rfl, Evl.ex_l W.e e2, ?_, k _ W (.refl W) rfl⟩
    have h3 := atI_map V.int x.ns y
    rw [hf] at h3
    exact h3
end
theorem _root_.L2.Room.units65 {k : Nat} {A : Around} (r : Room k A) : A.units + 65 < cLine := by
  have := r.un
  omega
section
variable {X : Cx} {ρ : List SV} {pos : Pos} {a : Expr} {rest : List Stmt} {γ : Type} {post : γ → List SV}
/-- return of a list that was changed till now -/
theorem bs_retM {xx : Nat → Hp → Prop} {α : Type} [Rep α] {m : ML α} {x : Str} {p1 : Pos} {fr : Bool} (i : Nat) (hi : ρ[i]? = some (.mut m) := by rfl) (hN : X.N[i]? = some x := by rfl) (hv : Vis X.env.scope x := by first | exact Or.inl rfl | exact Or.inr (Or.inl rfl) | exact Or.inr (Or.inr rfl)) (hd : (x == ("__debug__" : Str)) = false := by decide)
    (hcd : (x == ("__classdict__" : Str)) = false := by decide) : Bs X xx ρ (.Return (some (.Name x p1)) pos :: rest) (γ := γ) fr (some (.ret m.xs)) post := .mk fun out ho We B σ W D S k => by
  cases ho
  obtain ⟨l, vs, W', e1, n1, eh, hp, r, S'⟩ := S.freeze hi
  rw [← eh]
  exact useSs (pss_cons (ps_ret (pe_var hN hv hd hcd)) pss_run) ⟨_, e1, k _ W' S'.le S'.b ⟨l, vs, rfl, hp, r⟩ fun _ => ⟨l, rfl, n1⟩⟩
end
/-! ### defs known by name -/
def Has (P : Program) (w : World) (K : PySem.W.Frag) (mg : Str → Option Value) (base : Heap) (k : Nat) (x : Str) (ps : List Str) (sp : Sp) : Prop :=
  ∃ (f : Addr) (fd : FuncData), FnOk P w K mg base CX0 k f fd ps sp ∧ mg x = some (.ref f) ∧ PySem.W.keepIn K (.ref f) = true ∧ Binds K fd ps []
section
variable {X : Cx} {ρ : List SV} {pos : Pos} {a : Expr} {es : List Expr}
theorem ep_has {β : Type} [Rep β] {fr : Bool} {C : List SV → β → Prop} {k k' : Nat} {ps : List Str} {x : Str} {p1 : Pos} {o : Option (List SV)} {ob : Option β}
    (F : Has X.prog X.w X.K X.mg X.base k x ps (spOf X.K fr C)) (hr : Room k' X.A) (hk : k ≤ k') (ha : Ag X ρ (a :: es) o) (hC : ∀ r, ob = some r → ∃ l, o = some l ∧ C l r) (hg : Gl X x := by rfl) (hst : NS X a := by intro _; rfl) (hd : (x == ("__debug__" : Str)) = false := by decide)
    (hpl : (backTo pos (starEach es X.env)).any (·.1) = false := by rfl) : Ep X ρ (.Call (.Name x p1) (a :: es) [] pos) ob := by
  obtain ⟨f, fd, F, hm, hkp, hb⟩ := F
  exact ep_call F (hr.mono hk) hg hm hkp hb ha hC hst hd hpl
theorem ep_hasF {β : Type} [Rep β] {C : List SV → List β → Prop} {k k' : Nat} {ps : List Str} {x : Str} {p1 : Pos} {o : Option (List SV)} {ob : Option (List β)}
    (F : Has X.prog X.w X.K X.mg X.base k x ps (spOf X.K true C)) (hr : Room k' X.A) (hk : k ≤ k') (ha : Ag X ρ (a :: es) o) (hC : ∀ r, ob = some r → ∃ l, o = some l ∧ C l r) (hg : Gl X x := by rfl) (hst : NS X a := by intro _; rfl) (hd : (x == ("__debug__" : Str)) = false := by decide)
    (hpl : (backTo pos (starEach es X.env)).any (·.1) = false := by rfl) : EpF X ρ (.Call (.Name x p1) (a :: es) [] pos) ob := by
  obtain ⟨f, fd, F, hm, hkp, hb⟩ := F
  exact ep_callF F (hr.mono hk) hg hm hkp hb ha hC hst hd hpl
end
end T
/-! typed layer: defs that raise, caught; the head's facts with own ones -/
namespace T
variable [Tb]
open PySem PySem.Spec PyProof.Rows L2
open Evl (Ex)
open Rep (rel)

/-! ### defs that may raise: inr c: the exception of number c -/
def spX (K : PySem.W.Frag) (fr : Bool) {β : Type} [Rep β] (cls : Nat → Addr) (C : List SV → β ⊕ Nat → Prop) : Sp := fun vs H Q E =>
  ∃ (W : Wd) (avs : List SV) (o : β ⊕ Nat), H = W.h ∧ AR K W vs avs ∧ (∀ x ∈ avs, ¬ x.isMut) ∧ C avs o ∧
    (∀ r, o = .inl r → ∀ v W', W.Le W' → rel K W'.s v r → (fr = true → ∃ p, v = .ref p ∧ fre W.h p) → Q v W'.h) ∧
    (∀ c, o = .inr c → ∀ W', W.Le W' → E (.ref (cls c)) none W'.h)
def retx {β γ : Type} (o : Option (Out β γ)) : Option (β ⊕ Nat) := match o with
  | some (.ret b) => some (.inl b)
  | some (.exc c) => some (.inr c)
  | _ => none
section
variable {P : Program} {w : World} {K : PySem.W.Frag} {mg : Str → Option Value} {base : Heap} {name qual : Str} {params : Arguments} {body : List Stmt} {scope : Scope} {f : Addr} {fd : FuncData} {N ps : List Str} {k : Nat} {β : Type} [Rep β] {fr : Bool} {C : List SV → β ⊕ Nat → Prop} {cls : Nat → Addr}
abbrev cxX (P : Program) (w : World) (K : PySem.W.Frag) (mg : Str → Option Value) (base : Heap) (N : List Str) (qual : Str) (scope : Scope) (f : Addr) (cd : Value) (A : Around) (outer : List Env) (s : Shared) (H : Hp) (E : XK) : Cx := cxOf (L2.CX P w) P w K mg base N qual scope f cd A outer s H E
abbrev xxOf (cls : Nat → Addr) (E : XK) : Nat → Hp → Prop := fun c H => E (.ref (cls c)) none H
theorem fn_okX {γ : Type} {post : γ → List SV} (F : FunD K name qual params body scope [] [] f fd) (S : FnScope N ps scope) (hl : ps.length ≤ N.length) (hC : ∀ l r, C l r → l.length = ps.length)
    (h : ∀ (cdv : Value) (A : Around) (outer : List Env) (s : Shared) (H : Hp) (E : XK), Room k (A.deeper (envOfC qual scope s.heap.objs.size f cdv)) → ∀ l r, C l r →
      ∃ m : Option (Out β γ), retx m = some r ∧ Bs (cxX P w K mg base N qual scope f cdv A outer s H E) (xxOf cls E) (l ++ List.replicate (N.length - l.length) .any) body fr m post) :
    FnOk P w K mg base (L2.CX P w) (k + 1) f fd ps (spX K fr cls C) := by
  refine F.ok S (fun vs H Q E ⟨W, avs, r, _, pr, _, c, _⟩ => pr.len.trans (hC _ _ c)) (fun cdv A outer s H vs Q E hr ⟨W, avs, r, eh, pr, nm, c, q1, q2⟩ => ?_)
  subst eh
  obtain ⟨m, hm, hb⟩ := h cdv A outer s W.h E hr avs r c
  refine ⟨RunSs (cxX P w K mg base N qual scope f cdv A outer s W.h E) body, pss_run, ?_⟩
  have st := sr_start (N := N) (K := K) (by rw [hC _ _ c]; exact hl) pr nm
  unfold retx at hm
  split at hm
  · cases hm
    exact hb.run _ rfl W W.s _ W _ st fun v W' le _ rr hf => q1 _ rfl v W' le rr hf
  · cases hm
    exact hb.run _ rfl W W.s _ W _ st fun W' le => q2 _ rfl W' le
  · cases hm
theorem fn_okX3 {α α' α'' γ : Type} [Rep α] [Rep α'] [Rep α''] {m : α → α' → α'' → Option (Out β γ)} {post : γ → List SV} (F : FunD K name qual params body scope [] [] f fd) (S : FnScope N ps scope) (hl : ps.length ≤ N.length) (h1 : ps.length = 3)
    (h : ∀ (cdv : Value) (A : Around) (outer : List Env) (s : Shared) (H : Hp) (E : XK), Room k (A.deeper (envOfC qual scope s.heap.objs.size f cdv)) → ∀ a b c, Bs (cxX P w K mg base N qual scope f cdv A outer s H E) (xxOf cls E) ([.imm a, .imm b, .imm c] ++ List.replicate (N.length - 3) .any) body fr (m a b c) post) :
    FnOk P w K mg base (L2.CX P w) (k + 1) f fd ps (spX K fr cls (C3 fun a b c => retx (m a b c))) :=
  fn_okX F S hl (fun l r ⟨a, b, c, e, _⟩ => by rw [e, h1]; rfl) fun cdv A outer s H E hr l r ⟨a, b, c, e, hm⟩ => by
    subst e
    exact ⟨m a b c, hm, h cdv A outer s H E hr a b c⟩
theorem fn_okX4 {α α' α'' α3 γ : Type} [Rep α] [Rep α'] [Rep α''] [Rep α3] {m : α → α' → α'' → α3 → Option (Out β γ)} {post : γ → List SV} (F : FunD K name qual params body scope [] [] f fd) (S : FnScope N ps scope) (hl : ps.length ≤ N.length) (h1 : ps.length = 4)
    (h : ∀ (cdv : Value) (A : Around) (outer : List Env) (s : Shared) (H : Hp) (E : XK), Room k (A.deeper (envOfC qual scope s.heap.objs.size f cdv)) → ∀ a b c d, Bs (cxX P w K mg base N qual scope f cdv A outer s H E) (xxOf cls E) ([.imm a, .imm b, .imm c, .imm d] ++ List.replicate (N.length - 4) .any) body fr (m a b c d) post) :
    FnOk P w K mg base (L2.CX P w) (k + 1) f fd ps (spX K fr cls (C4 fun a b c d => retx (m a b c d))) :=
  fn_okX F S hl (fun l r ⟨a, b, c, d, e, _⟩ => by rw [e, h1]; rfl) fun cdv A outer s H E hr l r ⟨a, b, c, d, e, hm⟩ => by
    subst e
    exact ⟨m a b c d, hm, h cdv A outer s H E hr a b c d⟩
end
/-- what the top says of an exception class of the program (under ValueError) that is raised -/
structure ExA (K : PySem.W.Frag) (mg : Str → Option Value) (x : Str) (C : Addr) : Prop where
  g : mg x = some (.ref C)
  xP : PySem.W.excIn K C He.veBase "ValueError.__new__" = true
  kP : PySem.W.keepIn K (.ref C) = true
  bP : PySem.W.subIn K (.ref C) (.type "BaseException") = some true
  tP : PySem.W.typeIn K (.ref C) = some (.type "type")
section
variable {X : Cx} {ρ : List SV} {pos : Pos} {rest : List Stmt} {xx : Nat → Hp → Prop} {β γ : Type} [Rep β] {fr : Bool} {post : γ → List SV}
/-- raise X('..') -/
theorem bs_raise {x m : Str} {j : Nat} {p p2 p3 : Pos} {C : Addr} {E : XK} (c : Nat) (A : ExA X.K X.mg x C) (tk : Takes X (fun cls d _ H => E cls d H)) (hx : ∀ H, xx c H → E (.ref C) none H) (hc : X.calm = true) (hg : Gl X x := by rfl) (hdb : (x == ("__debug__" : Str)) = false := by decide) :
    Bs X xx ρ (.Raise (some (.Call (.Name x p) [.Constant (.str m) j p2] [] p3)) none pos :: rest) (β := β) fr (some (.exc c)) post := .mk fun out ho We B σ W D S k => by
  cases ho
  refine useSs (pss_cons (ps_raise hc tk (pmk_own PySem.F.excBase_ValueError A.xP A.g A.kP (raises_own A.bP A.tP) hg hdb)) pss_run) ?_
  exact hx _ (k W S.le)
/-- an exception that a suite holds -/
structure ExcV where
  a : Addr
end
instance : Rep ExcV := ⟨fun _ _ v x => v = .ref x.a, fun _ h => h⟩
section
variable {X : Cx} {ρ : List SV} {pos : Pos} {e : Expr} {rest : List Stmt} {xx : Nat → Hp → Prop} {β γ : Type} [Rep β] {fr : Bool} {post : γ → List SV}
/-- isinstance(e, C) in the suite that holds e, C a name of the module -/
theorem ep_isE {a D C : Addr} {oe : Obj} {pn : List (Addr × Obj)} {x y : Str} {p1 p2 p3 : Pos} {b : Bool} (i : Nat) (EC : ExcC X.K D) (hz : Zc (.ref D) none oe) (hf : ∃ vs, oe.data = .fields vs) (hm : X.mg "isinstance" = none) (hC : X.mg y = some (.ref C)) (hk : PySem.W.kitOne X.K (.ref D) (.ref C) = some b)
    (hρ : ρ[i]? = some (.imm (ExcV.mk a)) := by rfl) (hN : X.N[i]? = some x := by rfl) (hv : Vis X.env.scope x := by first | exact Or.inl rfl | exact Or.inr (Or.inl rfl) | exact Or.inr (Or.inr rfl)) (hd : (x == ("__debug__" : Str)) = false := by decide)
    (hcd : (x == ("__classdict__" : Str)) = false := by decide) (hg : Gl X "isinstance" := by rfl) (hgy : Gl X y := by rfl) (hdy : (y == ("__debug__" : Str)) = false := by decide) (hpl : (backTo pos (starEach [.Name y p3] X.env)).any (·.1) = false := by rfl) :
    Ep (X.suite a ((a, oe) :: pn)) ρ (.Call (.Name "isinstance" p1) [.Name x p2, .Name y p3] [] pos) (some b) := .mk fun z hz' We B σ W Q S k => by
  cases hz'
  obtain ⟨v, hv1, hv2⟩ := S.imm hρ
  refine useE (pe_callB (call_isE EC hz hf) hg hm (by decide +kernel) (pa_cons (pe_var (X := X.suite a ((a, oe) :: pn)) hN hv hd hcd) (pa_cons (pe_glob (v := .ref C) (X := X.suite a ((a, oe) :: pn)) hgy hC rfl hdy) pa_nil rfl) rfl) (he := rfl) (hpl := hpl)) ?_
  refine ⟨v, hv1, .ref C, .ref C, b, by rw [show v = V.ref a from hv2], fun u r => r, hk, k _ W (.refl W) rfl⟩
/-- .. a built-in class -/
theorem ep_isT {a D : Addr} {oe : Obj} {pn : List (Addr × Obj)} {x y : Str} {t : String} {p1 p2 p3 : Pos} {b : Bool} (i : Nat) (EC : ExcC X.K D) (hz : Zc (.ref D) none oe) (hf : ∃ vs, oe.data = .fields vs) (hm : X.mg "isinstance" = none) (hC : X.mg y = none) (hB : bootBuiltins y = some (.type t)) (hk : PySem.W.kitOne X.K (.ref D) (.type t) = some b)
    (hρ : ρ[i]? = some (.imm (ExcV.mk a)) := by rfl) (hN : X.N[i]? = some x := by rfl) (hv : Vis X.env.scope x := by first | exact Or.inl rfl | exact Or.inr (Or.inl rfl) | exact Or.inr (Or.inr rfl)) (hd : (x == ("__debug__" : Str)) = false := by decide)
    (hcd : (x == ("__classdict__" : Str)) = false := by decide) (hg : Gl X "isinstance" := by rfl) (hgy : Gl X y := by rfl) (hnn : y ≠ "__name__" := by decide) (hdy : (y == ("__debug__" : Str)) = false := by decide) (hpl : (backTo pos (starEach [.Name y p3] X.env)).any (·.1) = false := by rfl) :
    Ep (X.suite a ((a, oe) :: pn)) ρ (.Call (.Name "isinstance" p1) [.Name x p2, .Name y p3] [] pos) (some b) := .mk fun z hz' We B σ W Q S k => by
  cases hz'
  obtain ⟨v, hv1, hv2⟩ := S.imm hρ
  refine useE (pe_callB (call_isE EC hz hf) hg hm (by decide +kernel) (pa_cons (pe_var (X := X.suite a ((a, oe) :: pn)) hN hv hd hcd) (pa_cons (pe_bltn (v := .ty t) (X := X.suite a ((a, oe) :: pn)) hgy hC hB rfl hnn hdy) pa_nil rfl) rfl) (he := rfl) (hpl := hpl)) ?_
  refine ⟨v, hv1, .ty t, .type t, b, by rw [show v = V.ref a from hv2], fun u r => r, hk, k _ W (.refl W) rfl⟩
def retE {β γ : Type} : Option (Out β γ) → Option (Out β γ)
  | some (.ret b) => some (.ret b)
  | some (.exc c) => some (.exc c)
  | _ => none
def tryO {β β' γ : Type} (o : Option (β' ⊕ Nat)) (mr : Option (Out β γ)) (ms : Nat → Option (Out β γ)) : Option (Out β γ) := o.bind fun z => match z with
  | .inl _ => mr
  | .inr c => retE (ms c)
/-- try: f(..) except FE as n: suite that hands back -/
theorem bs_try {β' : Type} [Rep β'] {fr' : Bool} {C : List SV → β' ⊕ Nat → Prop} {cls : Nat → Addr} {k : Nat} {f FE : Addr} {fd : FuncData} {ps : List Str} {x y n : Str} {p1 p2 p3 np pos' : Pos} {a : Expr} {es : List Expr} {b₀ : Stmt} {suite : List Stmt} {oa : Option (List SV)} {o : Option (β' ⊕ Nat)} {ms : Nat → Option (Out β γ)} {mr : Option (Out β γ)} (i : Nat)
    (F : FnOk X.prog X.w X.K X.mg X.base (L2.CX X.prog X.w) k f fd ps (spX X.K fr' cls C)) (hr : Room k X.A) (hm : X.mg x = some (.ref f)) (hk : PySem.W.keepIn X.K (.ref f) = true) (hb : Binds X.K fd ps [])
    (ha : ∀ pn xe, Ag (X.tr pn xe) ρ (a :: es) oa) (hC : ∀ r, o = some r → ∃ l, oa = some l ∧ C l r) (gFE : X.mg y = some (.ref FE)) (hcatch : ∀ c, o = some (.inr c) → PySem.W.exmOne X.K (.ref (cls c)) (.ref FE) = some true) (nd : X.N.Nodup)
    (hsu : ∀ c (a' : Addr) (oe : Obj) (pn : List (Addr × Obj)), Zc (.ref (cls c)) none oe → (∃ vs, oe.data = .fields vs) → Bs (X.suite a' ((a', oe) :: pn)) xx (ρ.set i (.imm (ExcV.mk a'))) (b₀ :: suite) fr (ms c) post) (hrest : Bs X xx ρ rest fr mr post)
    (hi : X.N[i]? = some n := by rfl) (hln : X.env.kindOf n = some .local := by rfl) (hs : X.stack = X.env :: X.outer := by rfl) (hf : X.env.frame = some X.env.locals := by rfl) (hg : Gl X x := by rfl) (hgy : Gl X y := by rfl)
    (hst : NS X a := by intro _; rfl) (hd : (x == ("__debug__" : Str)) = false := by decide) (hdy : (y == ("__debug__" : Str)) = false := by decide) (hpl : (backTo p2 (starEach es X.env)).any (·.1) = false := by rfl) (hsw : swapsWith (.Call (.Name x p1) (a :: es) [] p2) none p3.line X.env = pure false := by rfl) :
    Bs X xx ρ (.Try [.Expr (.Call (.Name x p1) (a :: es) [] p2) p3] [.ExceptHandler (some (.Name y np)) (some n) (b₀ :: suite) pos'] [] [] pos :: rest) fr (tryO o mr ms) post := .mk fun out ho We B σ W D S k' => by
  obtain ⟨z, hz, hf'⟩ := bind_some ho
  obtain ⟨l, hl, hc⟩ := hC z hz
  refine useSs (pss_cons (ps_try_as (c := .ref FE) (tb := fun WW => tDrop (tCallS (spX X.K fr' cls C) (WE WW) (fun σ H Q => ∀ pn xe, RunA (X.tr pn xe) (a :: es) σ H Q)))
    (ts := fun a' cls' d' => fun D σ H => ∀ oe pn, Zc cls' d' oe → (∃ vs, oe.data = .fields vs) → RunSs (X.suite a' ((a', oe) :: pn)) (b₀ :: suite) D σ H) (i := i) (Wout := fun _ _ _ _ => False) hs hf nd hi hln ⟨hgy, hdy, .inl gFE⟩ takes0
    (fun WW pn xe tk hp => pss_one (ps_expr (pe_callS (X := X.tr pn xe) F hr hg hm hk hb (fun σ => passAt tk σ) ⟨fun pos pins s σ H Q I h => h pn xe pos pins s I⟩ hd (hst _) hpl) hsw))
    (fun a' oe cls' d' pn z1 z2 => ⟨fun pins s σ H D I h => h oe pn z1 z2 pins s I⟩)) pss_run) ?_
  intro pn xe
  obtain ⟨nm, h2⟩ := (ha pn xe).run l hl
  refine h2 We B σ W _ S fun vs W1 l1 pr => ?_
  have S1 := S.mono l1
  refine ⟨W1, l, z, rfl, pr, nm, hc, fun r er v W2 l2 r2 _ => ?_, fun c er W2 l2 => ?_⟩
  · subst er
    exact hrest.run out hf' We B σ W2 D (S1.mono l2) k'
  · subst er
    refine ⟨true, hcatch c hz, fun _ a' na oe pn' z1 z2 => ?_, fun q => by cases q⟩
    have hf' : retE (ms c) = some out := hf'
    have S3 : SR X.K We B (ρ.set i (.imm (ExcV.mk a'))) (σ.set i (some (.ref a'))) W2 := (S1.mono l2).set (.refl W2) rfl
    cases hm' : ms c with
    | none =>
      rw [hm'] at hf'
      cases hf'
    | some o1 =>
      rw [hm'] at hf'
      have hb' := hsu c a' oe pn' z1 z2
      rw [hm'] at hb'
      cases o1 with
      | go g => cases hf'
      | ret b =>
        cases hf'
        exact hb'.run _ rfl We B _ W2 _ S3 k'
      | cnt g => cases hf'
      | exc c' =>
        cases hf'
        exact hb'.run _ rfl We B _ W2 _ S3 k'
end
end T
/-! ### the head's facts and own ones -/
namespace He
open PySem PySem.Spec PyProof.Rows L2
def obsY (fa : List Fa) (fn : List DefD) (xb : PySem.W.Frag → Bool) (K : PySem.W.Frag) : AlD := (((fa.all fun f => f.ok K) && fn.all fun d => d.ok K) && xb K, fn.map fun d => fnW K d.at_)
def SaysY (fa : List Fa) (fn : List DefD) (xb : PySem.W.Frag → Bool) (K : PySem.W.Frag) : Prop := obsY fa fn xb K = valD fn
def obsYG (n : Nat) (fa : List Fa) (fn : List DefD) (xb : PySem.W.Frag → Bool) (g : Addr → Option Obj) : AlD := obsY fa fn xb (frG g (asD g n))
def hookY (n : Nat) (fa : List Fa) (fn : List DefD) (xb : PySem.W.Frag → Bool) : PySem.W.Hook where
  α := AlD
  obs := fun s => obsYG n fa fn xb s.heap.get?
  val := fun _ => valD fn
  says := fun _ h => ∃ K : PySem.W.Frag, K.In h ∧ SaysY fa fn xb K
  of := fun _ _ e => ⟨_, frG_in, e⟩
  keeps := fun _ _ _ ⟨K, hK, c⟩ k => ⟨K, PySem.W.Frag.In.keeps hK k, c⟩
theorem obsYG_eq {n : Nat} {fa : List Fa} {fn : List DefD} {xb : PySem.W.Frag → Bool} {g : Addr → Option Obj} {s : Shared} (h : ∀ a, g a = s.heap.get? a) : obsYG n fa fn xb g = (hookY n fa fn xb).obs s := by
  have e : g = s.heap.get? := funext h
  rw [e] <;> rfl
theorem SaysY.both {fa : List Fa} {fn : List DefD} {xb : PySem.W.Frag → Bool} {K : PySem.W.Frag} (c : SaysY fa fn xb K) : SaysD fa fn K ∧ xb K = true := by
  have c1 : (((fa.all fun f => f.ok K) && fn.all fun d => d.ok K) && xb K) = true := congrArg (fun z : AlD => z.1) c
  have c2 : fn.map (fun d => fnW K d.at_) = fn.map DefD.val := congrArg (fun z : AlD => z.2) c
  obtain ⟨h1, h2⟩ := ba c1
  refine ⟨?_, h2⟩
  show (((fa.all fun f => f.ok K) && fn.all fun d => d.ok K), fn.map fun d => fnW K d.at_) = (true, fn.map DefD.val)
  rw [h1, c2]
/-- what isinstance asks of the class at D -/
def excC (K : PySem.W.Frag) (D : Addr) : Bool :=
  decide (PySem.W.findIn K (.ref D) "__getattribute__" = some (some (.builtin "BaseException.__getattribute__"))) && (decide (PySem.W.findIn K (.ref D) "__getattr__" = some none) && (decide (PySem.W.subIn K (.ref D) (.type "BaseException") = some true) && (PySem.W.hasDictIn K D &&
  (decide (PySem.W.findIn K (.ref D) "__class__" = some (some (.builtin "object.__class__"))) && (decide (PySem.W.specialIn K (.builtin "object.__class__") "__get__" = some (some (.builtin "getset_descriptor.__get__"))) && (decide (PySem.W.takesIn K (.builtin "object.__class__") = some true) && decide (PySem.W.mroIn K D (.type "object") = some true)))))))
theorem excC_ok {K : PySem.W.Frag} {D : Addr} (h : excC K D = true) : ExcC K D := by
  obtain ⟨h1, h⟩ := ba h
  obtain ⟨h2, h⟩ := ba h
  obtain ⟨h3, h⟩ := ba h
  obtain ⟨h4, h⟩ := ba h
  obtain ⟨h5, h⟩ := ba h
  obtain ⟨h6, h⟩ := ba h
  obtain ⟨h7, h8⟩ := ba h
  exact ⟨of_decide_eq_true h1, of_decide_eq_true h2, of_decide_eq_true h3, h4, of_decide_eq_true h5, of_decide_eq_true h6, of_decide_eq_true h7, of_decide_eq_true h8⟩
end He
namespace T
open PySem PySem.Spec PyProof.Rows L2
theorem exA_of {K : PySem.W.Frag} {h : Heap} {mg : Str → Option Value} {x : Str} (X : K.In h) (G : h.Ns mainGlobals mg) (c1 : (He.Fa.glo x).ok K = true) (c2 : (He.Fa.exc x).ok K = true) : ExA K mg x (He.ga K x) := by
  obtain ⟨h1, c⟩ := He.ba (show (PySem.W.excIn K (He.ga K x) He.veBase "ValueError.__new__" && (PySem.W.keepIn K (.ref (He.ga K x)) && (decide (PySem.W.subIn K (.ref (He.ga K x)) (.type "BaseException") = some true) && decide (PySem.W.typeIn K (.ref (He.ga K x)) = some (.type "type"))))) = true from c2)
  obtain ⟨h2, c⟩ := He.ba c
  obtain ⟨h3, h4⟩ := He.ba c
  exact ⟨He.glo_ok X G c1, h1, h2, of_decide_eq_true h3, of_decide_eq_true h4⟩
/-- a def of the text, by its name -/
theorem has_of {P : Program} {w : World} {K : PySem.W.Frag} {mg : Str → Option Value} {base : Heap} {k : Nat} {x : Str} {ps : List Str} {sp : Sp} {fd : FuncData} (F : FnOk P w K mg base CX0 k (He.ga K x) fd ps sp) (g : mg x = some (.ref (He.ga K x))) (kp : PySem.W.keepIn K (.ref (He.ga K x)) = true) (b : Binds K fd ps []) : Has P w K mg base k x ps sp := ⟨_, fd, F, g, kp, b⟩
end T
/-! typed layer, sixth part: isinstance, displays walked, lists unpacked, chains -/
namespace T
open PySem PySem.Spec PyProof.Rows L2
open Evl (Ex)
open Rep (rel)

/-- all but the tables -/
def noTb (H : Hp) : Hp := fun p => match H p with
  | some o => if isTb o then none else some o
  | none => none
theorem noTb_some {H : Hp} {p : Addr} {o : HO} (h : noTb H p = some o) : H p = some o ∧ isTb o = false := by
  unfold noTb at h
  cases q : H p with
  | none => rw [q] at h; cases h
  | some u =>
    rw [q] at h
    dsimp only at h
    by_cases z : isTb u = true
    · rw [if_pos z] at h
      cases h
    · rw [if_neg z] at h
      cases h
      exact ⟨rfl, by cases hz : isTb o with
        | true => exact absurd hz z
        | false => rfl⟩
theorem noTb_of {H : Hp} {p : Addr} {o : HO} (h : H p = some o) (n : isTb o = false) : noTb H p = some o := by
  unfold noTb
  rw [h]
  dsimp only
  rw [if_neg (by rw [n]; exact Bool.false_ne_true)]
/-- the law's own promise, from the script -/
theorem law_sp [Tb] {m : Script → Option Bool} (hm : ∀ ns : List Int, ns.length ≤ 63 → m ⟨ns⟩ = some true) {K : PySem.W.Frag} {H : Hp} {a : Addr} {ns : List Int} (hl : ns.length ≤ 63) (hS : SqL K H a (ns.map V.int)) (hT : LamX.Tabs Tb.T H) {E : XK} :
    spOf K false (C1 m) [.ref a] H (fun v _ => v = .bl true) E := by
  have hS' : SqL K (noTb H) a (ns.map V.int) := by
    rcases hS with (h | ⟨o, h⟩) | h
    · exact .inl (.inl (noTb_of h rfl))
    · exact .inl (.inr ⟨o, noTb_of h rfl⟩)
    · exact .inr h
  exact ⟨⟨noTb H, H, fun p o h => (noTb_some h).1, fun p o h => (noTb_some h).2, hT⟩, [.imm (Script.mk ns)], true, rfl, .cons ⟨a, rfl, hS'⟩ .nil, fun x hx => by
    rw [List.mem_singleton.mp hx]
    exact fun z => z, ⟨_, rfl, hm ns hl⟩, fun v W' _ r _ => r⟩
/-- the built-in class of a value -/
class Knd (α : Type) extends Rep α where
  tn : String
  ty : ∀ {K : PySem.W.Frag} {H : Hp} {v : V} {a : α}, rel K H v a → TyX K H v (.type tn)
instance : Knd Int where
  tn := "int"
  ty := fun {K H v a} h => by
    have h : v = .int a := h
    subst h
    exact .base (.int _)
instance : Knd Bool where
  tn := "bool"
  ty := fun {K H v a} h => by
    have h : v = .bl a := h
    subst h
    exact .base (.bl _)
instance {α β : Type} [Rep α] [Rep β] : Knd (α × β) where
  tn := "tuple"
  ty := fun h => by
    obtain ⟨p, x, y, rfl, h2, _⟩ := h
    exact .base (.tup h2)
instance : Knd Tri where
  tn := "tuple"
  ty := fun h => by
    obtain ⟨p, rfl, ob, h2, _⟩ := h
    exact .fTuple h2
instance {α : Type} [Rep α] : Knd (List α) where
  tn := "list"
  ty := fun h => by
    obtain ⟨p, vs, rfl, h2, _⟩ := h
    exact .base <| .lst h2
theorem tyOf_mono {K : PySem.W.Frag} {H H' : Hp} {v : V} {t : Value} (e : Ex H H') (h : TyOf K H v t) : TyOf K H' v t := by
  cases h with
  | non => exact .non
  | bl b => exact .bl b
  | int i => exact .int i
  | str x => exact .str x
  | flt b => exact .flt b
  | lst ea => exact .lst (e _ _ ea)
  | frz ea => exact .frz (e _ _ ea)
  | tup ea => exact .tup (e _ _ ea)
  | dK ea => exact .dK (e _ _ ea)
  | dT ea => exact .dT (e _ _ ea)
  | ins ea a b c d f => exact .ins (e _ _ ea) a b c d f
variable [Tb]
section
variable {X : Cx} {ρ : List SV} {pos : Pos} {e a b c d : Expr} {es : List Expr}
/-- isinstance(x, T), T a built-in class -/
def oisi {α : Type} (x : Option α) (r : Bool) : Option Bool := x.bind fun _ => some r
theorem tyX_mono {K : PySem.W.Frag} {H H' : Hp} {v : V} {t : Value} (e : Ex H H') (h : TyX K H v t) : TyX K H' v t := by
  cases h with
  | base h => exact .base (tyOf_mono e h)
  | byt b => exact .byt b
  | set h => exact .set (e _ _ h)
  | kList h c => exact .kList h c
  | kTuple h c => exact .kTuple h c
  | kDict h c => exact .kDict h c
  | fTuple h => exact .fTuple (e _ _ h)
  | fDict h => exact .fDict (e _ _ h)
theorem ep_isi {α : Type} [Knd α] {o : Option α} {y : Str} {t : String} {p1 p3 : Pos} (r : Bool) (hm : X.mg "isinstance" = none) (hy : X.mg y = none) (hB : bootBuiltins y = some (.type t)) (hk : kitB (Knd.tn α) t = some r) (ha : Ep X ρ a o)
    (hg : Gl X "isinstance" := by rfl) (hgy : Gl X y := by rfl) (hst : NS X a := by intro _; rfl) (hnn : y ≠ "__name__" := by decide) (hdy : (y == ("__debug__" : Str)) = false := by decide) (hpl : (backTo pos (starEach [.Name y p3] X.env)).any (·.1) = false := by rfl) :
    Ep X ρ (.Call (.Name "isinstance" p1) [a, .Name y p3] [] pos) (oisi o r) := .mk fun z hz We B σ W Q S k => by
  obtain ⟨x, hx, hf⟩ := bind_some hz
  cases hf
  refine useE (pe_callB call_isi hg hm (by decide +kernel) (pa_cons pe_run (pa_cons (pe_bltn (v := .ty t) hgy hy hB rfl hnn hdy) pa_nil rfl) (hst _)) (he := hst _) (hpl := hpl)) (ha.run x hx We B σ W _ S fun v W1 l1 r1 => ?_)
  exact ⟨v, .ty t, .type (Knd.tn α), .type t, r, rfl, .ty t, tyX_mono W1.e (Knd.ty r1), kit_ty hk, k _ W1 l1 rfl⟩
/-- len of a tuple -/
def olen3 (x : Option Tri) : Option Int := x.bind fun _ => some 3
theorem ep_len3 {o : Option Tri} {p1 : Pos} (hg : Gl X "len") (hm : X.mg "len" = none) (ha : Ep X ρ a o) (hst : NS X a := by intro _; rfl) : Ep X ρ (.Call (.Name "len" p1) [a] [] pos) (olen3 o) := .mk fun z hz We B σ W Q S k => by
  obtain ⟨x, hx, hf⟩ := bind_some hz
  cases hf
  refine useE (pe_callB call_len_seq hg hm PySem.boot_len (pa_cons pe_run pa_nil (hst _)) (he := hst _)) (ha.run x hx We B σ W _ S fun v W1 l1 ⟨p, e1, e2⟩ => ?_)
  exact ⟨p, _, by rw [e1], .inr (e2.mono W1.e).sq, k _ W1 l1 rfl⟩
def olen2 {α β : Type} (x : Option (α × β)) : Option Int := x.bind fun _ => some 2
theorem ep_len2 {α β : Type} [Rep α] [Rep β] {o : Option (α × β)} {p1 : Pos} (hg : Gl X "len") (hm : X.mg "len" = none) (ha : Ep X ρ a o) (hst : NS X a := by intro _; rfl) : Ep X ρ (.Call (.Name "len" p1) [a] [] pos) (olen2 o) := .mk fun z hz We B σ W Q S k => by
  obtain ⟨x, hx, hf⟩ := bind_some hz
  cases hf
  refine useE (pe_callB call_len_seq hg hm PySem.boot_len (pa_cons pe_run pa_nil (hst _)) (he := hst _)) (ha.run x hx We B σ W _ S fun v W1 l1 ⟨p, y, w, e1, e2, _⟩ => ?_)
  exact ⟨p, _, by rw [e1], .inr (.of (W1.e _ _ e2)), k _ W1 l1 rfl⟩
/-- a == b == c of whole numbers, as a test -/
def oeq3 (x y z : Option Int) : Option Bool := x.bind fun i => y.bind fun j => if i = j then z.bind fun k => some (decide (j = k)) else some false
theorem tp_eq3 {oa ob oc : Option Int} (ha : Ep X ρ a oa) (hb : Ep X ρ b ob) (hc : Ep X ρ c oc) (hm : lastMarks [CmpOp.Eq, CmpOp.Eq] [b, c] = false := by rfl) : Tp X ρ (.Compare a [.Eq, .Eq] [b, c] pos) (oeq3 oa ob oc) := .mk fun z hz We B σ W Q S k => by
  obtain ⟨x, hx, hz⟩ := bind_some hz
  obtain ⟨y, hy, hz⟩ := bind_some hz
  refine useT (pt_chain op_eq op_eq pe_run pe_run pe_run (hm := hm)) (ha.run x hx We B σ W _ S fun v W1 l1 r1 => hb.run y hy We B σ W1 _ (S.mono l1) fun u W2 l2 r2 => ?_)
  cases r1
  cases r2
  refine ⟨rfl, _, rfl, ?_⟩
  have ed : decide (V.int x = V.int y) = decide (x = y) := dec_val (α := Int) x y
  rw [ed]
  by_cases h : x = y
  · rw [if_pos h] at hz
    rw [decide_eq_true h]
    obtain ⟨w, hw, hz⟩ := bind_some hz
    cases hz
    refine iteT (hc.run w hw We B σ W2 _ (S.mono (l1.trans l2)) fun t W3 l3 r3 => ?_)
    cases r3
    refine ⟨rfl, _, rfl, ?_⟩
    have ed2 : decide (V.int y = V.int w) = decide (y = w) := dec_val (α := Int) y w
    rw [ed2]
    exact k W3 ((l1.trans l2).trans l3)
  · rw [if_neg h] at hz
    cases hz
    rw [decide_eq_false h]
    exact iteF ⟨_, rfl, k W2 (l1.trans l2)⟩
end
/-! a list unpacked -/
theorem tg_lst3 {K : PySem.W.Frag} {α : Type} [Rep α] (i j l : Nat) (a : List α) (x y z : α) (ha : a = [x, y, z]) (We : Wd) (B : Hp) (ρ : List SV) (σ : L2.St) (W : Wd) (v : V) (Q : L2.St → Hp → Prop) (S : SR K We B ρ σ W) (r : rel K W.s v a)
    (k : ∀ σ', SR K We B (((ρ.set i (.imm x)).set j (.imm y)).set l (.imm z)) σ' W → Q σ' W.h) : gLst K 3 (gCons (gName i) (gCons (gName j) (gCons (gName l) gNil))) v σ W.h Q := by
  subst ha
  obtain ⟨p, vs, e1, e2, r⟩ := r
  match vs, r with
  | [_, _, _], .cons r1 (.cons r2 (.cons r3 .nil)) =>
    exact ⟨p, _, e1, .of (W.e _ _ e2), rfl, _, _, rfl, _, _, rfl, _, [], rfl, rfl, k _ (((S.set (.refl W) r1).set (.refl W) r2).set (.refl W) r3)⟩
theorem tg_lst4 {K : PySem.W.Frag} {α : Type} [Rep α] (i j l n : Nat) (a : List α) (x y z u : α) (ha : a = [x, y, z, u]) (We : Wd) (B : Hp) (ρ : List SV) (σ : L2.St) (W : Wd) (v : V) (Q : L2.St → Hp → Prop) (S : SR K We B ρ σ W) (r : rel K W.s v a)
    (k : ∀ σ', SR K We B ((((ρ.set i (.imm x)).set j (.imm y)).set l (.imm z)).set n (.imm u)) σ' W → Q σ' W.h) : gLst K 4 (gCons (gName i) (gCons (gName j) (gCons (gName l) (gCons (gName n) gNil)))) v σ W.h Q := by
  subst ha
  obtain ⟨p, vs, e1, e2, r⟩ := r
  match vs, r with
  | [_, _, _, _], .cons r1 (.cons r2 (.cons r3 (.cons r4 .nil))) =>
    exact ⟨p, _, e1, .of (W.e _ _ e2), rfl, _, _, rfl, _, _, rfl, _, _, rfl, _, [], rfl, rfl, k _ ((((S.set (.refl W) r1).set (.refl W) r2).set (.refl W) r3).set (.refl W) r4)⟩
section
variable {X : Cx} {ρ : List SV} {pos : Pos} {e a b c d : Expr} {es : List Expr} {rest : List Stmt} {xx : Nat → Hp → Prop} {β γ : Type} [Rep β] {fr : Bool} {post : γ → List SV}
def unl3 {α δ : Type} (a : List α) (f : α → α → α → Option δ) : Option δ := match a with
  | [x, y, z] => f x y z
  | _ => none
def unl4 {α δ : Type} (a : List α) (f : α → α → α → α → Option δ) : Option δ := match a with
  | [x, y, z, u] => f x y z u
  | _ => none
theorem bs_unl3 {α : Type} [Rep α] {tg : Expr} {o : Option (List α)} {f : α → α → α → Option (Out β γ)} (i j l : Nat) (hg : PG X tg (gLst X.K 3 (gCons (gName i) (gCons (gName j) (gCons (gName l) gNil))))) (he : Ep X ρ e o)
    (hr : ∀ x y z, Bs X xx (((ρ.set i (.imm x)).set j (.imm y)).set l (.imm z)) rest fr (f x y z) post)
    (hs : swapsWithSole [tg] e pos.line X.env = pure false := by rfl) (hw : swappedStores [tg] e X.env = pure none := by rfl) (h1 : (assignEach [tg] X.env).map (·.2) = [assign tg X.env] := by rfl) : Bs X xx ρ (.Assign [tg] e pos :: rest) fr (o.bind fun a => unl3 a f) post := .mk fun out ho We B σ W D S k => by
  obtain ⟨y, hy, hf'⟩ := bind_some ho
  unfold unl3 at hf'
  split at hf'
  · refine useSs (pss_cons (ps_asg pe_run hg hs hw h1) pss_run) (he.run _ hy We B σ W _ S fun v W1 l1 r1 => ?_)
    exact tg_lst3 i j l _ _ _ _ rfl We B ρ σ W1 v _ (S.mono l1) r1 fun σ' S' => (hr _ _ _).run out hf' We B σ' W1 D S' k
  · cases hf'
theorem bs_unl4 {α : Type} [Rep α] {tg : Expr} {o : Option (List α)} {f : α → α → α → α → Option (Out β γ)} (i j l n : Nat) (hg : PG X tg (gLst X.K 4 (gCons (gName i) (gCons (gName j) (gCons (gName l) (gCons (gName n) gNil)))))) (he : Ep X ρ e o)
    (hr : ∀ x y z u, Bs X xx ((((ρ.set i (.imm x)).set j (.imm y)).set l (.imm z)).set n (.imm u)) rest fr (f x y z u) post)
    (hs : swapsWithSole [tg] e pos.line X.env = pure false := by rfl) (hw : swappedStores [tg] e X.env = pure none := by rfl) (h1 : (assignEach [tg] X.env).map (·.2) = [assign tg X.env] := by rfl) : Bs X xx ρ (.Assign [tg] e pos :: rest) fr (o.bind fun a => unl4 a f) post := .mk fun out ho We B σ W D S k => by
  obtain ⟨y, hy, hf'⟩ := bind_some ho
  unfold unl4 at hf'
  split at hf'
  · refine useSs (pss_cons (ps_asg pe_run hg hs hw h1) pss_run) (he.run _ hy We B σ W _ S fun v W1 l1 r1 => ?_)
    exact tg_lst4 i j l n _ _ _ _ _ rfl We B ρ σ W1 v _ (S.mono l1) r1 fun σ' S' => (hr _ _ _ _).run out hf' We B σ' W1 D S' k
  · cases hf'
/-! tuples walked -/
/-- e is a tuple of things of one kind -/
structure Up (X : Cx) (ρ : List SV) (e : Expr) {α : Type} [Rep α] (o : Option (List α)) : Prop where
  run : ∀ a, o = some a → ∀ (We : Wd) (B : Hp) (σ : L2.St) (W : Wd) (Q : VK), SR X.K We B ρ σ W → (∀ p vs W', W.Le W' → FT W'.s p vs → Paired (fun v x => rel X.K W'.s v x) vs a → Q (.ref p) W'.h) → RunE X e σ W.h Q
theorem up_tup {α : Type} [Rep α] {o : Option (List α)} {x1} (h : Al X ρ es o) (hl : Nat.ble es.length 1000 = true := by rfl) : Up X ρ (.Tuple es x1 pos) o := .mk fun z hz We B σ W Q S k => by
  obtain ⟨h1, h2⟩ := h.run z hz
  refine useE (pe_tupF pa_run) (h2 We B σ W _ S fun vs W1 l1 r1 => ⟨?_, fun p ob hob hp => ?_⟩)
  · rw [plen r1, h1]
    exact Nat.le_trans (Nat.le_of_ble_eq_true hl) (by decide)
  · have l2 := Wd.Le.new W1 (.frz ob (.tup vs)) hp
    exact k p vs (W1.new p (.frz ob (.tup vs)) hp) (l1.trans l2) ⟨ob, upd_same, hob⟩ (pmono (fun _ _ h => Rep.mono l2.s h) r1)
def otl (x : Option Tri) : Option (List Int) := x.bind fun t => some [t.a, t.b, t.c]
theorem up_tri {o : Option Tri} (h : Ep X ρ e o) : Up X ρ e (otl o) := .mk fun z hz We B σ W Q S k => by
  obtain ⟨x, hx, hf⟩ := bind_some hz
  cases hf
  exact h.run x hx We B σ W Q S fun v W1 l1 ⟨p, e1, e2⟩ => by
    subst e1
    exact k p _ W1 l1 e2 (.cons rfl (.cons rfl (.cons rfl .nil)))
theorem bs_forT {α γ1 : Type} [Rep α] {tg iter : Expr} {body : List Stmt} {g : TG} {js : List Nat} {up : α → List SV → List SV} {o : Option (List α)} {f : α → γ1 → Option (Out β γ1)} {m : γ1 → Option (Out β γ)} (P : γ1 → List SV) (g0 : γ1)
    (hg : PG X tg g) (ht : TgR X.K g js up) (hi : Up X ρ iter o) (h0 : Wk ρ (P g0)) (hb : ∀ x g, Bs X xx (up x (P g)) body fr (f x g) P) (hr : ∀ g, Bs X xx (P g) rest fr (m g) post)
    (hp : PassesOwn (model X.prog X.w) X.A X.env X.xe) (hc : X.calm = true) (hs : ∀ x, foldedSetIterable iter X.env x = pure x := by intro _; rfl) :
    Bs X xx ρ (.For tg iter body [] pos :: rest) fr (o.bind fun xs => thenO (loopL f xs g0) m) post := .mk fun out ho We B σ W D S k => by
  obtain ⟨xs, hxs, ho⟩ := bind_some ho
  obtain ⟨o1, h1, hf⟩ := bind_some ho
  refine useSs (pss_cons (ps_for hp hc (pi_tup pe_run) hg pss_run hs) pss_run) (hi.run xs hxs We B σ W _ S fun p vs W1 l1 hp1 r1 => ?_)
  refine ⟨p, rfl, ⟨vs, (hp1.mono W1.e).sq⟩, for_tup (xs := vs) (fun i σ' H' => ∃ g' W', H' = W'.h ∧ SR X.K We W1.s (P g') σ' W' ∧ loopL f (xs.drop i) g' = some o1) ?_ ?_ ?_ ?_⟩
  · exact ⟨g0, W1, rfl, ((S.mono l1).rebase (Ex.refl _)).wk h0, h1⟩
  · rintro i σ' H' _ ⟨g', W', rfl, S', _⟩
    exact ((hp1.mono S'.b).mono W'.e).sq
  · rintro i v σ' H' hv ⟨g', W', rfl, S', hl⟩
    obtain ⟨x, hx, rx⟩ := pget' r1 hv
    rw [drop_get hx] at hl
    obtain ⟨o2, h2, hl⟩ := bind_some hl
    refine ht.run x We W1.s _ σ' W' v _ S' (Rep.mono S'.b rx) fun σ2 S2 _ => ?_
    refine (hb x g').run o2 h2 We W1.s σ2 W' _ S2 ?_
    cases o2 with
    | ret b =>
      cases hl
      cases hf
      exact fun v' W2 l2 b2 r2 q2 => k v' W2 l2 (((S.b.trans l1.s)).trans b2) r2 q2
    | go g2 => exact fun σ3 W3 S3 => ⟨g2, W3, rfl, S3, hl⟩
    | cnt g2 => exact fun σ3 W3 S3 => ⟨g2, W3, rfl, S3, hl⟩
    | exc c =>
      cases hl
      cases hf
      exact k
  · rintro σ' H' ⟨g', W', rfl, S', hl⟩
    rw [plen r1, List.drop_length] at hl
    cases hl
    exact (hr g').run out hf We B σ' W' D (S'.rebase (((S.b.trans l1.s)).trans S'.b)) k
variable {elt tg iter : Expr} {ifs : List Expr} {scope : Scope}
theorem lc_T {α β : Type} [Rep α] [Rep β] {g : TG} {js : List Nat} {up : α → List SV → List SV} {oxs : Option (List α)} {oc : α → Option Bool} {f : α → Option β} {tt : TT} (own : List (Str × Nat)) (ok : BlkOk X.N X.env.scope scope own) (hi : Up X ρ iter oxs)
    (hg : ∀ (s : Shared) (H : Hp) (C : Addr) (cl : List (Str × Addr)) (fp : List Addr), PG (X.blk s H scope (compEnvC scope cl C X.env) fp) tg g) (ht : TgR X.K g js up) (hjs : ∀ j ∈ js, j ∈ own.map (·.2))
    (hpt : ∀ (s : Shared) (H : Hp) (C : Addr) (cl : List (Str × Addr)) (fp : List Addr), PTs (X.blk s H scope (compEnvC scope cl C X.env) fp) ifs tt)
    (hts : ∀ x b, oc x = some b → ∀ (We : Wd) (B : Hp) (σ : L2.St) (W : Wd) (Q : Bool → Hp → Prop), SR X.K We B (up x (wipeS ρ (own.map (·.2)))) σ W → (∀ W', W.Le W' → Q b W'.h) → tt σ W.h Q)
    (he : ∀ x (s : Shared) (H : Hp) (C : Addr) (cl : List (Str × Addr)) (fp : List Addr), Ep (X.blk s H scope (compEnvC scope cl C X.env) fp) (up x (wipeS ρ (own.map (·.2)))) elt (f x)) (hs : ∀ x, foldedSetIterable iter X.env x = pure x) :
    LcOk X ρ elt tg iter ifs scope (oxs.bind fun xs => if capOk xs.length then lcM oc f xs else none) := ⟨_, g, tt, tElt X scope elt, own, pi_tup pe_run, ok, hg, hpt, fun s H C cl fp => ⟨fun pins s' σ' H' Q' I h => h s H C cl fp pins s' I⟩, hs, fun all hall We B σ W Q S k => by
  obtain ⟨xs, hxs, hm⟩ := bind_some hall
  split at hm
  · rename_i hcap
    refine hi.run xs hxs We B σ W _ S fun p vs W1 l1 hp r1 => ?_
    refine ⟨p, rfl, ⟨vs, (hp.mono W1.e).sq⟩, fun D hD => ?_⟩
    refine lc_tup (g := g) (tt := tt) (te := tElt X scope elt) (σ := σ) (vs := own.map (·.2)) (Qd := fun H => Q (.ref D) H) (xs := vs) (LcP X.K We B ρ σ W1 D oc f xs all) (lcp_start hD hm) ?_ ?_ ?_
    · rintro i H _ ⟨W', us, ys, zs, rfl, l2, _⟩
      obtain ⟨ob, e1, _⟩ := hp
      exact .inl (.inr ⟨ob, l2.h _ _ (W1.e _ _ e1) rfl⟩)
    · intro i v H hv pv
      obtain ⟨x, hx, rx⟩ := pget' r1 hv
      exact lcp_turn hD hx hcap (S.mono l1) rx ht hjs (fun b hb => hts x b hb) (fun y hy We' B' σ' W' Q' S' k' s H0 C cl fp => (he x s H0 C cl fp).run y hy We' B' σ' W' Q' S' k') pv
    · intro H pv
      rw [plen r1] at pv
      exact lcp_end l1 hD pv k
  · cases hm⟩
end
end T
/-! plain sums over the mirrors' operations -/
namespace T
local instance tb0 : Tb := ⟨[]⟩
/-! ### sizes -/
def bd (n : Nat) (x : Int) : Prop := x.natAbs < 2 ^ n
theorem bd_mono {n m : Nat} {x : Int} (h : bd n x) (k : n ≤ m) : bd m x := Nat.lt_of_lt_of_le h (Nat.pow_le_pow_right (by decide) k)
theorem bd_add {n m : Nat} {x y : Int} (h1 : bd n x) (h2 : bd m y) : bd (max n m + 1) (x + y) := by
  have e1 := bd_mono h1 (Nat.le_max_left n m)
  have e2 := bd_mono h2 (Nat.le_max_right n m)
  unfold bd at e1 e2 ⊢
  rw [Nat.pow_succ]
  omega
theorem bd_sub {n m : Nat} {x y : Int} (h1 : bd n x) (h2 : bd m y) : bd (max n m + 1) (x - y) := by
  have e1 := bd_mono h1 (Nat.le_max_left n m)
  have e2 := bd_mono h2 (Nat.le_max_right n m)
  unfold bd at e1 e2 ⊢
  rw [Nat.pow_succ]
  omega
theorem bd_mul {n m : Nat} {x y : Int} (h1 : bd n x) (h2 : bd m y) : bd (n + m) (x * y) := by
  unfold bd at h1 h2 ⊢
  rw [Int.natAbs_mul, Nat.pow_add]
  exact Nat.mul_lt_mul'' h1 h2
theorem bd_neg {n : Nat} {x : Int} (h : bd n x) : bd n (-x) := by
  unfold bd at h ⊢
  rw [Int.natAbs_neg]
  exact h
theorem bd_of {n : Nat} {x B : Int} (h1 : -B ≤ x) (h2 : x ≤ B) (h : B.toNat < 2 ^ n) : bd n x := by
  unfold bd
  omega
/-! ### the operations -/
theorem oadd_s (a b : Int) : oadd (some a) (some b) = some (a + b) := rfl
theorem osub_s (a b : Int) : osub (some a) (some b) = some (a - b) := rfl
theorem oneg_s (a : Int) : oneg (some a) = some (-a) := rfl
theorem omul_L {a : Int} (b : Int) (h1 : -(2 ^ 64) < a) (h2 : a < 2 ^ 64) : omul (some a) (some b) = some (a * b) := by
  show (if mulOk a b = true then some (a * b) else none) = _
  rw [if_pos]
  unfold mulOk
  rw [decide_eq_true h1, decide_eq_true h2]
  rfl
theorem omul_R {b : Int} (a : Int) (h1 : -(2 ^ 64) < b) (h2 : b < 2 ^ 64) : omul (some a) (some b) = some (a * b) := by
  show (if mulOk a b = true then some (a * b) else none) = _
  rw [if_pos]
  unfold mulOk
  rw [decide_eq_true h1, decide_eq_true h2]
  simp
theorem small_of {n : Nat} {a : Int} (h : bd n a) (k : n ≤ 600) : smallI a = true := by
  unfold smallI
  exact decide_eq_true (bd_mono h k)
theorem omul_b {n m : Nat} {a b : Int} (h1 : bd n a) (h2 : bd m b) (k1 : n ≤ 600 := by decide) (k2 : m ≤ 600 := by decide) : omul (some a) (some b) = some (a * b) := by
  show (if mulOk a b = true then some (a * b) else none) = _
  rw [if_pos]
  unfold mulOk
  rw [small_of h1 k1, small_of h2 k2]
  simp
theorem omod_s {b : Int} (a : Int) (h : 0 < b) : omod (some a) (some b) = some (a % b) := by
  show (if decide (0 < b) = true then some (a % b) else none) = _
  rw [if_pos (decide_eq_true h)]
theorem ofdiv_s {n : Nat} {b : Int} (a : Int) (h0 : b ≠ 0) (h : bd n b) (k : n ≤ 600 := by decide) : ofdiv (some a) (some b) = some (a.fdiv b) := by
  show (if divOk a b = true then some (a.fdiv b) else none) = _
  rw [if_pos]
  unfold divOk
  rw [decide_eq_true h0, small_of h k]
  rfl
theorem ofdiv_p {b : Int} (a : Int) (h0 : 0 < b) (h : b < 2 ^ 600) : ofdiv (some a) (some b) = some (a / b) := by
  rw [ofdiv_s (n := 600) a (by omega) (by unfold bd; omega), Int.fdiv_eq_ediv_of_nonneg a (by omega)]
theorem opow2_b {n : Nat} {a : Int} (h : bd n a) (k : n ≤ 64 := by decide) : opow (some a) (some (2 : Int)) = some (a * a) := by
  show (if powOk a 2 = true then some (a ^ (2 : Int).toNat) else none) = _
  have e := bd_mono h k
  rw [if_pos]
  · show some (a ^ 2) = _
    rw [Int.pow_succ, Int.pow_succ, Int.pow_zero, Int.one_mul]
  · unfold powOk
    unfold bd at e
    simp only [Bool.and_eq_true, decide_eq_true_eq]
    exact ⟨⟨by decide, by decide⟩, e⟩
theorem ob2i_s (b : Bool) : ob2i (some b) = some (if b then 1 else 0) := rfl
theorem olt_s (a b : Int) : olt (some a) (some b) = some (decide (a < b)) := rfl
theorem ole_s (a b : Int) : ole (some a) (some b) = some (decide (a ≤ b)) := rfl
theorem ogt_s (a b : Int) : ogt (some a) (some b) = some (decide (b < a)) := rfl
theorem oge_s (a b : Int) : oge (some a) (some b) = some (decide (b ≤ a)) := rfl
theorem oeq_s {α : Type} [DecidableEq α] (a b : α) : oeq (some a) (some b) = some (decide (a = b)) := rfl
theorem one_s {α : Type} [DecidableEq α] (a b : α) : one_ (some a) (some b) = some (!decide (a = b)) := rfl
theorem omk2_s {α β : Type} (a : α) (b : β) : omk2 (some a) (some b) = some (a, b) := rfl
theorem omk3_s (a b c : Int) : omk3 (some a) (some b) (some c) = some ⟨a, b, c⟩ := rfl
theorem ofst_s {α β : Type} (a : α × β) : ofst (some a) = some a.1 := rfl
theorem osnd_s {α β : Type} (a : α × β) : osnd (some a) = some a.2 := rfl
theorem ocons_s {α : Type} (a : α) (l : List α) : ocons (some a) (some l) = some (a :: l) := rfl
theorem olen_s {α : Type} (l : List α) : olen (some l) = some (l.length : Int) := rfl
theorem oslen_s (s : Script) : oslen (some s) = some (s.ns.length : Int) := rfl
theorem onot_s (b : Bool) : onot (some b) = some (!b) := rfl
theorem oand_s (a : Bool) (y : Option Bool) : oand (some a) y = if a then y else some false := rfl
theorem oor_s (a : Bool) (y : Option Bool) : oor (some a) y = if a then some true else y := rfl
theorem oand_ss (a b : Bool) : oand (some a) (some b) = some (a && b) := by cases a <;> rfl
theorem oor_ss (a b : Bool) : oor (some a) (some b) = some (a || b) := by cases a <;> rfl
theorem oisi_s {α : Type} (a : α) (r : Bool) : oisi (some a) r = some r := rfl
theorem oin_s {α : Type} [DecidableEq α] (a : α) (l : List α) : oin (some a) (some l) = some (decide (a ∈ l)) := rfl
theorem onin_s {α : Type} [DecidableEq α] (a : α) (l : List α) : onin (some a) (some l) = some (!decide (a ∈ l)) := rfl
theorem oite_s {α : Type} (c : Bool) (x y : Option α) : oite (some c) x y = if c then x else y := rfl
theorem oret_s {α γ : Type} (a : α) : (oret (some a) : Option (Out α γ)) = some (.ret a) := rfl
theorem bind_s {α β : Type} (a : α) (f : α → Option β) : Option.bind (some a) f = f a := rfl
theorem bind2_s {α β γ : Type} (a : α) (b : β) (f : α → β → Option γ) : bind2 (some a) (some b) f = f a b := rfl
theorem bind3_s {α β γ δ : Type} (a : α) (b : β) (c : γ) (f : α → β → γ → Option δ) : bind3 (some a) (some b) (some c) f = f a b c := rfl
theorem bind4_s {α β γ δ ε : Type} (a : α) (b : β) (c : γ) (d : δ) (f : α → β → γ → δ → Option ε) : bind4 (some a) (some b) (some c) (some d) f = f a b c d := rfl
theorem noGo_ret {β γ : Type} (b : β) : (noGo (some (.ret b)) : Option (Out β γ)) = some (.ret b) := rfl
theorem noGo_exc {β γ : Type} (c : Nat) : (noGo (some (.exc c)) : Option (Out β γ)) = some (.exc c) := rfl
theorem retv_ret {β γ : Type} (b : β) : retv (some (.ret b : Out β γ)) = some b := rfl
theorem retx_ret {β γ : Type} (b : β) : retx (some (.ret b : Out β γ)) = some (.inl b) := rfl
theorem retx_exc {β γ : Type} (c : Nat) : retx (some (.exc c : Out β γ)) = some (.inr c) := rfl
theorem thenO_go {β γ γ' : Type} (g : γ) (k : γ → Option (Out β γ')) : thenO (some (.go g)) k = k g := rfl
theorem thenO_ret {β γ γ' : Type} (b : β) (k : γ → Option (Out β γ')) : thenO (some (.ret b : Out β γ)) k = some (.ret b) := rfl
theorem loopL_nil {α β γ : Type} (f : α → γ → Option (Out β γ)) (g : γ) : loopL f [] g = some (.go g) := rfl
theorem loopL_go {α β γ : Type} {f : α → γ → Option (Out β γ)} {x : α} {r : List α} {g g' : γ} (h : f x g = some (.go g')) : loopL f (x :: r) g = loopL f r g' := by
  show (f x g).bind _ = _
  rw [h]
  rfl
theorem loopL_cnt {α β γ : Type} {f : α → γ → Option (Out β γ)} {x : α} {r : List α} {g g' : γ} (h : f x g = some (.cnt g')) : loopL f (x :: r) g = loopL f r g' := by
  show (f x g).bind _ = _
  rw [h]
  rfl
theorem loopL_ret {α β γ : Type} {f : α → γ → Option (Out β γ)} {x : α} {r : List α} {g : γ} {b : β} (h : f x g = some (.ret b)) : loopL f (x :: r) g = some (.ret b) := by
  show (f x g).bind _ = _
  rw [h]
  rfl
theorem cap_s {α : Type} {l : List α} (h : l.length ≤ 1000000) : cap l = some l := by
  unfold cap
  rw [if_pos (show capOk l.length = true from decide_eq_true h)]
theorem ocat_s {α : Type} {a b : List α} (h : a.length + b.length ≤ 1000000) : ocat (some a) (some b) = some (a ++ b) := cap_s (by rw [List.length_append]; exact h)
theorem oapp_s {α : Type} {l : List α} {a : α} (h : l.length ≤ 1000000) : oapp l (some a) = some (l ++ [a]) := by
  show (if capOk l.length = true then _ else _) = _
  rw [if_pos (show capOk l.length = true from decide_eq_true h)]
theorem orng_s {n : Int} (h1 : -1000000 ≤ n) (h2 : n ≤ 1000000) : orng (some n) = some (rngL n) := by
  show (if rngOk n = true then _ else _) = _
  rw [if_pos]
  unfold rngOk
  rw [decide_eq_true h1, decide_eq_true h2]
  rfl
theorem oidx_s {α : Type} (l : List α) (i : Int) : oidx (some l) (some i) = L2.atI l i := rfl
theorem atI_pos {α : Type} {l : List α} {i : Int} (h : 0 ≤ i) : L2.atI l i = l[i.toNat]? := by
  unfold L2.atI L2.ixN
  rw [if_pos h]
  by_cases hl : i < l.length
  · rw [if_pos hl]
    rfl
  · rw [if_neg hl, List.getElem?_eq_none (by omega)]
    rfl
theorem atI_neg {α : Type} {l : List α} {i : Int} (h : i < 0) (h2 : -(l.length : Int) ≤ i) : L2.atI l i = l[(i + l.length).toNat]? := by
  unfold L2.atI L2.ixN
  rw [if_neg (by omega), if_pos h2]
  rfl
theorem lcM_map {α β : Type} (f : α → β) (g : α → Option β) : ∀ l : List α, (∀ x ∈ l, g x = some (f x)) → lcM oYes g l = some (l.map f)
  | [], _ => rfl
  | x :: r, h => by
    show (Option.bind (some true) fun b => if b then (g x).bind fun y => (lcM oYes g r).bind fun ys => some (y :: ys) else lcM oYes g r) = _
    rw [bind_s, if_pos rfl, h x (List.mem_cons_self ..), lcM_map f g r fun y hy => h y (List.mem_cons_of_mem _ hy)]
    rfl
theorem lcM_filter {α β : Type} (p : α → Bool) (f : α → β) (c : α → Option Bool) (g : α → Option β) : ∀ l : List α, (∀ x ∈ l, c x = some (p x)) → (∀ x ∈ l, p x = true → g x = some (f x)) → lcM c g l = some ((l.filter p).map f)
  | [], _, _ => rfl
  | x :: r, h1, h2 => by
    have ih := lcM_filter p f c g r (fun y hy => h1 y (List.mem_cons_of_mem _ hy)) fun y hy => h2 y (List.mem_cons_of_mem _ hy)
    show ((c x).bind fun b => if b then (g x).bind fun y => (lcM c g r).bind fun ys => some (y :: ys) else lcM c g r) = _
    rw [h1 x (List.mem_cons_self ..), ih, bind_s]
    cases hp : p x with
    | true => rw [if_pos rfl, h2 x (List.mem_cons_self ..) hp, List.filter_cons_of_pos hp]; rfl
    | false => rw [if_neg Bool.false_ne_true, List.filter_cons_of_neg (by rw [hp]; exact Bool.false_ne_true)]
/-- a point within B either way -/
def box (B : Int) (p : Int × Int) : Prop := -B ≤ p.1 ∧ p.1 ≤ B ∧ -B ≤ p.2 ∧ p.2 ≤ B
end T
/-! plain geometry: areas, distances, rings -/
namespace T
local instance tb1 : Tb := ⟨[]⟩
abbrev Pt := Int × Int
theorem ofdiv_q {b : Int} (a : Int) (h0 : 0 < b) (h : b < 18446744073709551616) : ofdiv (some a) (some b) = some (a / b) := by
  rw [ofdiv_s (n := 64) a (by omega) (by unfold bd; omega), Int.fdiv_eq_ediv_of_nonneg a (by omega)]
instance (B : Int) (p : Pt) : Decidable (box B p) := inferInstanceAs (Decidable (_ ∧ _ ∧ _ ∧ _))
theorem box_mono {B C : Int} {p : Pt} (h : box B p) (k : B ≤ C) : box C p := by
  obtain ⟨h1, h2, h3, h4⟩ := h
  exact ⟨by omega, by omega, by omega, by omega⟩
/-- a point whose two numbers are short -/
def pb (p : Pt) : Prop := bd 40 p.1 ∧ bd 40 p.2
theorem pb_of {B : Int} {p : Pt} (h : box B p) (k : B ≤ 1000000000 := by decide) : pb p := by
  obtain ⟨h1, h2, h3, h4⟩ := h
  exact ⟨bd_of (B := 1000000000) (by omega) (by omega) (by decide), bd_of (B := 1000000000) (by omega) (by omega) (by decide)⟩
theorem bd_add' {n : Nat} {x y : Int} (h1 : bd n x) (h2 : bd n y) : bd (n + 1) (x + y) := by
  have := bd_add h1 h2
  rwa [Nat.max_self] at this
theorem bd_sub' {n : Nat} {x y : Int} (h1 : bd n x) (h2 : bd n y) : bd (n + 1) (x - y) := by
  have := bd_sub h1 h2
  rwa [Nat.max_self] at this
/-- twice the area of a, b, c, and its sign says which way they turn -/
def area (a b c : Pt) : Int := (b.1 - a.1) * (c.2 - a.2) - (b.2 - a.2) * (c.1 - a.1)
def far (a b : Pt) : Int := (a.1 - b.1) * (a.1 - b.1) + (a.2 - b.2) * (a.2 - b.2)
/-- positive where d lies in the ring through a, b, c that turn left -/
def rings (a b c d : Pt) : Int := far a d * area d b c + far b d * area d c a + far c d * area d a b
def sgn (x : Int) : Int := (if decide (0 < x) then 1 else 0) - (if decide (x < 0) then 1 else 0)
theorem sgn_eq (x : Int) : sgn x = x.sign := by
  unfold sgn
  rcases Int.lt_trichotomy x 0 with h | h | h
  · rw [if_neg (by rw [decide_eq_true_eq]; omega), if_pos (decide_eq_true h), Int.sign_eq_neg_one_of_neg h]; rfl
  · subst h; rfl
  · rw [if_pos (decide_eq_true h), if_neg (by rw [decide_eq_true_eq]; omega), Int.sign_eq_one_of_pos h]; rfl
theorem sgn_mul (x y : Int) : sgn (x * y) = sgn x * sgn y := by rw [sgn_eq, sgn_eq, sgn_eq, Int.sign_mul]
theorem sgn_neg (x : Int) : sgn (-x) = -sgn x := by rw [sgn_eq, sgn_eq, Int.sign_neg]
theorem sgn_pos {x : Int} (h : 0 < x) : sgn x = 1 := by rw [sgn_eq, Int.sign_eq_one_of_pos h]
theorem sgn_zero : sgn 0 = 0 := rfl
theorem sgn_bd (x : Int) : -1 ≤ sgn x ∧ sgn x ≤ 1 := by
  unfold sgn
  by_cases h : decide (0 < x) = true <;> by_cases k : decide (x < 0) = true <;> simp only [h, k, if_true, if_false] <;> decide
theorem sgn_eq0 {x : Int} : sgn x = 0 ↔ x = 0 := by rw [sgn_eq]; exact Int.sign_eq_zero_iff_zero
theorem bd_area {a b c : Pt} (ha : pb a) (hb : pb b) (hc : pb c) : bd 83 (area a b c) :=
  bd_sub' (bd_mul (bd_sub' hb.1 ha.1) (bd_sub' hc.2 ha.2)) (bd_mul (bd_sub' hb.2 ha.2) (bd_sub' hc.1 ha.1))
theorem bd_far {a b : Pt} (ha : pb a) (hb : pb b) : bd 83 (far a b) :=
  bd_add' (bd_mul (bd_sub' ha.1 hb.1) (bd_sub' ha.1 hb.1)) (bd_mul (bd_sub' ha.2 hb.2) (bd_sub' ha.2 hb.2))
theorem area_rot (a b c : Pt) : area b c a = area a b c := by unfold area; grind
theorem area_flip (a b c : Pt) : area b a c = -area a b c := by unfold area; grind
theorem area_sw (a b c : Pt) : area a c b = -area a b c := by unfold area; grind
theorem area_aba (a b : Pt) : area a b a = 0 := by unfold area; grind
theorem area_aab (a b : Pt) : area a a b = 0 := by unfold area; grind
theorem area_abb (a b : Pt) : area a b b = 0 := by unfold area; grind
theorem far_self (a : Pt) : far a a = 0 := by unfold far; grind
theorem rings_rot (a b c d : Pt) : rings b c a d = rings a b c d := by unfold rings; grind
theorem rings_flip (a b c d : Pt) : rings b a c d = -rings a b c d := by
  unfold rings
  rw [area_sw d c a, area_sw d b c, area_sw d a b]
  grind
theorem rings_a (a b c : Pt) : rings a b c a = 0 := by
  unfold rings
  rw [far_self, area_aba, area_aab]
  grind
theorem rings_b (a b c : Pt) : rings a b c b = 0 := by rw [← rings_rot, rings_a]
theorem rings_c (a b c : Pt) : rings a b c c = 0 := by rw [← rings_rot, rings_b]
theorem loop_all {α β γ' : Type} {f : α → Unit → Option (Out β Unit)} {K : Unit → Option (Out β γ')} {xs : List α} {r : Option (Out β γ')} (h : ∀ x ∈ xs, f x () = some (.go ())) (k : K () = r) : thenO (loopL f xs ()) K = r := by
  have e : loopL f xs () = some (.go ()) := by
    clear k
    induction xs with
    | nil => rfl
    | cons x t ih => rw [loopL_go (h x (List.mem_cons_self ..)), ih fun y hy => h y (List.mem_cons_of_mem _ hy)]
  rw [e, thenO_go]
  exact k
theorem loop_allR {α β γ' : Type} {f : α → Unit → Option (Out β Unit)} {K : Unit → Option (Out β γ')} {xs : List α} {r : Option β} (h : ∀ x ∈ xs, f x () = some (.go ())) (k : retv (K ()) = r) : retv (thenO (loopL f xs ()) K) = r := by
  rw [loop_all h rfl]
  exact k
theorem oYes_t {α : Type} (x : α) : oYes x = some true := rfl
end T
/-! typed layer: sorted(.., key=lambda n: xs[n]), xs captured -/
namespace T
open PySem PySem.Spec PyProof.Rows L2 LamX
open Evl (Ex)
open Rep (rel)
def ptLe (k : Int → Int × Int) (p q : Int) : Bool := decide ((k p).1 < (k q).1 ∨ ((k p).1 = (k q).1 ∧ (k p).2 ≤ (k q).2))
def tSortLam (K : PySem.W.Frag) (T : List (Addr × Str)) (i : Nat) (te : TE) : TE := fun σ H Q => te σ H fun v H1 =>
  ∃ (l a : Addr) (ns : List Int) (vs : List V) (k : Int → Int × Int), v = .ref l ∧ SqL K H1 l (ns.map V.int) ∧ σ[i]? = some (some (.ref a)) ∧ SqL K H1 a vs ∧
    (∀ x ∈ ns, 0 ≤ x ∧ ∃ t, vs[x.toNat]? = some (.ref t) ∧ H1 t = some (.tup [.int (k x).1, .int (k x).2])) ∧ Tabs T H1 ∧
    ∀ H2 q, ExtN H1 H2 → Tabs T H2 → H2 q = none → Q (.ref q) (upd H2 q (.lst ((ns.mergeSort (ptLe k)).map V.int)))
theorem sql_ext {K : PySem.W.Frag} {H H' : Hp} {a : Addr} {xs : List V} (e : ExtN H H') (h : SqL K H a xs) : SqL K H' a xs := by
  rcases h with (h | ⟨o, h⟩) | h
  · exact .inl (.inl (e _ _ h fun ps z => by cases z))
  · exact .inl (.inr ⟨o, e _ _ h fun ps z => by cases z⟩)
  · exact .inr h
theorem each_ints : ∀ (ns : List Int) {us : List Value}, Vals (ns.map V.int) us → PySem.W.EachIs (fun v n => ∃ t, v = Value.int n t) us ns
  | [], us, h => by
    cases us with
    | nil => exact .nil
    | cons _ _ => cases h
  | n :: ns, us, h => by
    cases h with
    | cons h r => exact .cons h (each_ints ns r)
theorem vals_each {ns : List Int} {us : List Value} (h : PySem.W.EachIs (fun v n => ∃ t, v = Value.int n t) us ns) : Vals (ns.map V.int) us := by
  induction h with
  | nil => exact .nil
  | cons h _ ih => exact .cons h ih
section
variable {X : Cx} {e : Expr} {te : TE}
theorem pe_sortlam {Ts : List (Addr × Str)} {c P : Addr} {k i : Nat} {params : Arguments} {scope : Scope} {px nx : Str} {p p1 p2 p3 lpos kpos pos : Pos} (hg : Gl X "sorted") (hm : X.mg "sorted" = none) (he : PE X e te) (hst : NS X e)
    (TB : TabB X.base X.mg c P) (hcode : X.env.code = .ref c) (hmT : (P, X.env.qual ++ "<lambda>") ∈ Ts) (hu : ∀ p ∈ Ts, p.1 = P → p.2 = X.env.qual ++ "<lambda>") (hr : Room (k + 1) X.A) (hdef : defaultsOf params X.env = ([], []))
    (hbind : ∀ (q : Str) (cl : List (Str × Addr)) (pm cv ctv v : Value), bindArgs (PySem.W.kla_fn "<lambda>" q params (.Subscript (.Name px p1) (.Name nx p2) p3) scope cl pm cv ctv) ⟨[v], []⟩ = pure [(nx, v)])
    (sk : scope.kind = .function) (sc : scope.isCoroutine = false) (sg : scope.isGenerator = false) (hcell : ∀ y ∈ scope.names, y.2 ≠ .cell) (hln : scope.names.lookup nx = some .local) (hlp : scope.names.lookup px = some .free)
    (hfr : ∀ y ∈ scope.names, y.2 = .free → y.1 = px) (hN : X.N[i]? = some px) (hv : X.env.scope.names.lookup px = some .cell)
    (hdp : (px == ("__debug__" : Str)) = false) (hcp : (px == ("__classdict__" : Str)) = false) (hdn : (nx == ("__debug__" : Str)) = false)
    (hix : ∀ o i, subscripted (.Name nx p2) false o i = operate [o, i] (getItem o i)) :
    PE X (.Call (.Name "sorted" p) [e] [⟨some "key", .Lambda params (.Subscript (.Name px p1) (.Name nx p2) p3) scope lpos, kpos⟩] pos) (tSortLam X.K Ts i te) := by
  refine ⟨fun pins s σ H Q I h => ?_⟩
  refine wpAny_Call_Name_kw (ld_blt I hg hm boot_sorted ?_)
  refine PyProof.Rows.callWith_kw ?_ (by rw [hst]; rfl) (by rw [hst]; rfl) (by rfl) (by rfl)
  rw [hst]
  show wpAny _ _ (spliced ((false, eval e X.env) :: backTo pos (starEach [] X.env))) _ _ s
  refine Calls.spliced_cons (thn (he.run pins s σ H _ I h) fun u s1 ⟨v, H1, I1, r1, l, a, ns, vs, k, ev, hl, ha, hq, hk, hT, fin⟩ => ?_)
  refine Calls.spliced_nil ?_
  subst ev
  obtain rfl : u = Value.ref l := r1
  show wpAny _ _ (evalAll [(do let v ← eval (.Lambda params (.Subscript (.Name px p1) (.Name nx p2) p3) scope lpos) X.env; standAt pos; pure v)]) _ _ s1
  have hfree : ∀ y ∈ scope.names, y.2 = .free → ∃ c, X.env.cells.lookup y.1 = some c := fun y hy e => by
    rw [hfr y hy e]
    exact I1.ok.has _ (.inl hv)
  refine wpAny_evalAll_cons (wpAny_bind (LamX.lam_make2 I1 TB hcode hmT hu hT hdef hfree fun f c' pm ctv H2 s2 I2 eN T2 hf hfn hfr' hco => wpAny_bind (wpAny_standAt (wpAny_pure ?_))))
  refine wpAny_evalAll_nil ?_
  show wpAny _ _ (call (.builtin "sorted") [.ref l] [("key", .ref f)]) _ _ s2
  have hl2 := sql_ext eN hl
  have hq2 := sql_ext eN hq
  obtain ⟨its, rv, pl, hz⟩ := I2.list hl2
  obtain ⟨pts, rp, pp, hzp⟩ := I2.list hq2
  have en := each_ints ns rv
  rw [List.length_map] at hz
  obtain ⟨m, hns, hloc⟩ := I2.loc
  obtain ⟨u, ru, lk⟩ := hloc i px _ hN ha (.inr (.inl hv))
  obtain rfl : u = Value.ref a := ru
  obtain ⟨cp, hcp1, hcp2⟩ : ∃ cp, X.env.cells.lookup px = some cp ∧ s2.heap.IsCell cp (some (.ref a)) := by
    rcases lk with ⟨h1, _⟩ | ⟨_, h2⟩
    · rw [show X.env.kindOf px = X.env.scope.names.lookup px from rfl, hv] at h1
      cases h1
    · exact h2
  have hclo : (cloFrom X.env.cells scope.names []).lookup px = some cp := by
    obtain ⟨c0, hc0⟩ := mem_lookup (cloFrom_has (cells := X.env.cells) (acc := []) (PySem.mem_of_lookup hlp))
    rw [hc0]
    rcases cloFrom_mem (PySem.mem_of_lookup hc0) with hm | ⟨h1, h2⟩
    · cases hm
    · rw [h2, hcp1]
      rfl
  obtain ⟨⟨oc, ocv, tq, hoc, hdc, hvc⟩, _, _⟩ := I2.hok c' _ hco
  refine PySem.W.sorted_key_data (b := false) (bs := ns) (R := fun v n => ∃ t, v = Value.int n t) (fun n => .tuple [.int (k n).1, .int (k n).2]) pl.isList en (PySem.W.AllAlike.of fun _ _ => rfl) (PySem.W.Sortable.tuples fun b => ⟨_, _, rfl⟩) hz (fun x _ => ?_) (PyProof.Rows.ksk_s1 _ _) (fun _ => PyProof.Rows.ksk_l1 _ _) (fun x => PyProof.Rows.ksk_t1 _ _) ?_ ?_
  · have := hr.un
    have e : (PyData.tuple [.int (k x).1, .int (k x).2]).depth ≤ 5 := by
      simp only [PyData.depth, PyData.depthAll]
      omega
    omega
  · rintro v x ⟨t, rfl⟩ hx h tk keep
    obtain ⟨x0, tp, hxv, hxt⟩ := hk x hx
    obtain ⟨wv, hw, rw'⟩ := rp.get hxv
    obtain rfl : wv = Value.ref tp := rw'
    refine wpAny_call (PySem.W.kla_callFunE (by have := hr.dp; show X.A.depth < _; omega) (keep _ _ hf) rfl sc sg rfl ⟨c', oc, ocv, tq, rfl, keep _ _ hoc, hdc, hvc⟩ ?_)
    rw [hbind]
    refine wpAny_pure (wpAny_newFunctionEnv hcell (fun y hy => ?_) (fun h₁ hns hsb => ⟨(I2.nolimit.keeps keep).fresh _ hsb, ?_⟩) sk)
    · rw [List.mem_singleton.mp hy]
      exact hln
    · have kp : ∀ b o, h.get? b = some o → h₁.get? b = some o := fun b o e => hsb.extBut b o (Nat.ne_of_lt (Heap.lt_size e)) (Heap.get?_push_of_some _ e)
      have kp2 : ∀ b o, s2.heap.get? b = some o → h₁.get? b = some o := fun b o e => kp b o (keep b o e)
      show codeAny _ _ (.expr (.Subscript (.Name px p1) (.Name nx p2) p3) (PySem.W.envX (X.env.qual ++ "<lambda>") scope h.objs.size f (.ref c') (cloFrom X.env.cells scope.names []))) _ _
      refine PySem.W.kla_codeExpr (PyProof.Rows.Subscript_ (wpAny_Name (wpAny_loadName_free (c := cp) (v := .ref a) sk hlp hclo ?_ (wpAny_Name (wpAny_loadName_local (v := .int x t) sk hln hns ?_ ?_) hdn) hcp) hdp))
      · obtain ⟨oq, e1, e2⟩ := hcp2
        exact ⟨oq, kp2 _ _ e1, e2⟩
      · show ([(nx, Value.int x t)] : List (Str × Value)).reverse.lookup nx = _
        simp
      · have lp := rp.length
        have l63 := line63
        have hlt : x.toNat < vs.length := (List.getElem?_eq_some_iff.mp hxv).1
        refine PyProof.Rows.item_listR (pp.keeps kp2).isList x0 (by omega) (x := .ref tp) (by simpa using hw) ?_ (hix _ _)
        refine ⟨h₁, _, rfl, kp, ?_⟩
        have hxt2 : H2 tp = some (.tup [.int (k x).1, .int (k x).2]) := eN _ _ hxt fun ps z => by cases z
        obtain ⟨its2, rt, ⟨ot, t1, t2, t3, t4⟩, tz⟩ := I2.tuple (.inl (.inl hxt2))
        cases rt with
        | cons ra rt =>
          obtain ⟨ta, rfl⟩ := ra
          cases rt with
          | cons rb rt =>
            obtain ⟨tb, rfl⟩ := rb
            cases rt
            exact .tuple (as := []) (kp2 _ _ t1) t2 t4 (.cons (as := []) (.int _ _) (.cons (as := []) (.int _ _) .nil))
  · intro out c2 h' tk keep fr0 hget hlen eout
    refine ⟨.ref _, upd H2 (s2.heap.objs.size + 1) (.lst ((ns.mergeSort (ptLe k)).map V.int)), I2.laid (t' := tk) keep (Nat.le_succ _) ⟨?_, _, c2, vals_each ?_, hget⟩, rfl, fin H2 _ eN T2 (I2.hok.fresh (Nat.le_succ _))⟩
    · rw [List.length_map, List.length_mergeSort]
      exact hz
    · rw [PySem.W.dataLe_ii] at eout
      exact eout
end
section
variable [Tb] {X : Cx} {ρ : List SV} {pos : Pos} {e a : Expr}
theorem ints_paired {K : PySem.W.Frag} {H : Hp} : ∀ l : List Int, Paired (fun v (x : Int) => rel K H v x) (l.map V.int) l
  | [] => .nil
  | x :: l => .cons rfl (ints_paired l)
theorem ints_eq {K : PySem.W.Frag} {H : Hp} {vs : List V} {l : List Int} (r : Paired (fun v (x : Int) => rel K H v x) vs l) : vs = l.map V.int := by
  induction r with
  | nil => rfl
  | cons h _ ih => rw [ih, h]; rfl
theorem rgV_eq (z : Int) : rgV 0 z = (rngL z).map V.int := by
  unfold rgV rngL
  rw [Int.sub_zero, List.map_map]
  exact List.map_congr_left fun i _ => by show V.int (0 + (i : Int)) = V.int i; rw [Int.zero_add]
/-- list(range(n)) -/
theorem ep_listR {o : Option Int} {p1 p2 p3 : Pos} (hc : X.calm = true) (hgl : Gl X "list") (hml : X.mg "list" = none) (hg : Gl X "range") (hm : X.mg "range" = none) (ha : Ep X ρ a o) (hst : NS X a := by intro _; rfl)
    (hst2 : NS X (.Call (.Name "range" p1) [a] [] p2) := by intro _; rfl) : EpF X ρ (.Call (.Name "list" p3) [.Call (.Name "range" p1) [a] [] p2] [] pos) (orng o) := .mk fun z hz We B σ W Q S k => by
  obtain ⟨n, hn, hz⟩ := bind_some hz
  split at hz
  · rename_i hok
    cases hz
    unfold rngOk at hok
    simp only [Bool.and_eq_true, decide_eq_true_eq] at hok
    refine useE (pe_listRg hc hgl hml (prg_1 hg hm pe_run (hst _)) (hst2 _)) (ha.run n hn We B σ W _ S fun v W1 l1 r1 => ⟨n, r1, ⟨by omega, by omega, by omega, by omega, by omega⟩, fun q hq => ?_⟩)
    have l2 := Wd.Le.new W1 (.lst (rgV 0 n)) hq
    exact k q _ (W1.new q (.lst (rgV 0 n)) hq) (l1.trans l2) (l1.h.back (fre_of hq)) upd_same (by rw [rgV_eq]; exact ints_paired _)
  · cases hz
def osortL (pts : List (Int × Int)) (o : Option (List Int)) : Option (List Int) := o.bind fun l => if l.all (fun x => decide (0 ≤ x) && decide (x.toNat < pts.length)) then some (l.mergeSort (ptLe fun i => pts.getD i.toNat (0, 0))) else none
theorem paired_get {α β : Type} {F : α → β → Prop} : ∀ {l : List α} {m : List β}, Paired F l m → ∀ {i : Nat} {y : β}, m[i]? = some y → ∃ x, l[i]? = some x ∧ F x y
  | _, _, .nil, i, y, h => by cases h
  | _, _, .cons h t, 0, y, e => by cases e; exact ⟨_, rfl, h⟩
  | _, _, .cons h t, i + 1, y, e => paired_get t (i := i) e
/-- sorted(e, key=lambda n: xs[n]) -/
theorem ep_sortlam {o : Option (List Int)} {pts : List (Int × Int)} {c P : Addr} {k i : Nat} {params : Arguments} {scope : Scope} {px nx : Str} {p p1 p2 p3 lpos kpos : Pos} (he : EpF X ρ e o) (hρ : ρ[i]? = some (.imm pts)) (hg : Gl X "sorted") (hm : X.mg "sorted" = none) (hst : NS X e)
    (TB : TabB X.base X.mg c P) (hcode : X.env.code = .ref c) (hT : Tb.T = [(P, X.env.qual ++ "<lambda>")]) (hr : Room (k + 1) X.A) (hdef : defaultsOf params X.env = ([], []))
    (hbind : ∀ (q : Str) (cl : List (Str × Addr)) (pm cv ctv v : Value), bindArgs (PySem.W.kla_fn "<lambda>" q params (.Subscript (.Name px p1) (.Name nx p2) p3) scope cl pm cv ctv) ⟨[v], []⟩ = pure [(nx, v)])
    (sk : scope.kind = .function) (sc : scope.isCoroutine = false) (sg : scope.isGenerator = false) (hcell : ∀ y ∈ scope.names, y.2 ≠ .cell) (hln : scope.names.lookup nx = some .local) (hlp : scope.names.lookup px = some .free)
    (hfr : ∀ y ∈ scope.names, y.2 = .free → y.1 = px) (hN : X.N[i]? = some px) (hv : X.env.scope.names.lookup px = some .cell)
    (hdp : (px == ("__debug__" : Str)) = false) (hcp : (px == ("__classdict__" : Str)) = false) (hdn : (nx == ("__debug__" : Str)) = false)
    (hix : ∀ o i, subscripted (.Name nx p2) false o i = operate [o, i] (getItem o i)) :
    EpF X ρ (.Call (.Name "sorted" p) [e] [⟨some "key", .Lambda params (.Subscript (.Name px p1) (.Name nx p2) p3) scope lpos, kpos⟩] pos) (osortL pts o) := .mk fun z hz We B σ W Q S k => by
  obtain ⟨l, hl, hz⟩ := bind_some hz
  split at hz
  · rename_i hall
    cases hz
    obtain ⟨v0, ev0, rv0⟩ := S.imm hρ
    obtain ⟨a0, vs0, rfl, hs0, rp0⟩ := rv0
    refine useE (pe_sortlam (Ts := Tb.T) hg hm pe_run hst TB hcode (by rw [hT]; exact List.mem_singleton.mpr rfl) (fun q hq _ => by rw [hT] at hq; rw [List.mem_singleton.mp hq]) hr hdef hbind sk sc sg hcell hln hlp hfr hN hv hdp hcp hdn hix) ?_
    refine he.run l hl We B σ W _ S fun q vs W1 l1 hn hp r1 => ⟨q, a0, l, vs0, fun i => pts.getD i.toNat (0, 0), rfl, ?_, ev0, .of (W1.e _ _ (l1.s _ _ hs0)), fun x hx => ?_, W1.tb, fun H2 q2 eN T2 hq2 => ?_⟩
    · rw [← ints_eq r1]
      exact .of (W1.e _ _ hp)
    · have hx' := List.all_eq_true.mp hall x hx
      simp only [Bool.and_eq_true, decide_eq_true_eq] at hx'
      obtain ⟨h0, h1⟩ := hx'
      refine ⟨h0, ?_⟩
      have eg : pts[x.toNat]? = some pts[x.toNat] := List.getElem?_eq_getElem h1
      obtain ⟨v, hv1, t, y1, y2, rfl, hst', hy1, hy2⟩ := paired_get rp0 eg
      refine ⟨t, hv1, ?_⟩
      have hy1 : y1 = .int pts[x.toNat].1 := hy1
      have hy2 : y2 = .int pts[x.toNat].2 := hy2
      subst hy1 hy2
      have eD : pts.getD x.toNat (0, 0) = pts[x.toNat] := by rw [List.getD_eq_getElem?_getD, eg]; rfl
      show W1.h t = some (.tup [.int (pts.getD x.toNat (0, 0)).1, .int (pts.getD x.toNat (0, 0)).2])
      rw [eD]
      exact W1.e _ _ (l1.s _ _ hst')
    · let W2 : Wd := ⟨W1.s, H2, fun b o hb => eN b o (W1.e b o hb) fun ps z => (by have := W1.nt b o hb; rw [z] at this; cases this), W1.nt, T2⟩
      have l12 : W1.Le W2 := ⟨Ex.refl _, fun b o hb hno => eN b o hb fun ps z => (by rw [z] at hno; cases hno), fun _ _ _ _ h => h⟩
      have l23 := Wd.Le.new W2 (.lst ((l.mergeSort (ptLe fun i => pts.getD i.toNat (0, 0))).map V.int)) hq2
      exact k q2 _ (W2.new q2 (.lst ((l.mergeSort (ptLe fun i => pts.getD i.toNat (0, 0))).map V.int)) hq2) ((l1.trans l12).trans l23) ((l1.trans l12).h.back (fre_of hq2)) upd_same (ints_paired _)
  · cases hz
end
/-- a def of one parameter whose code object is known -/
theorem fn_okC1 [Tb] {P : Program} {w : World} {K : PySem.W.Frag} {mg : Str → Option Value} {base : Heap} {name qual : Str} {params : Arguments} {body : List Stmt} {scope : Scope} {at_ : He.Defn} {fd : FuncData} {N ps : List Str} {k : Nat} {β : Type} [Rep β] {fr : Bool} {α γ : Type} [Rep α] {m : α → Option (Out β γ)} {post : γ → List SV}
    (F : FunD K name qual params body scope [] [] (He.fAd K at_) fd) (S : FnScope N ps scope) (hl : ps.length ≤ N.length) (h1 : ps.length = 1)
    (h : ∀ (A : Around) (outer : List Env) (s : Shared) (H : Hp) (E : XK), Room k (A.deeper (envOfC qual scope s.heap.objs.size (He.fAd K at_) (.ref (He.codeOf K at_)))) → ∀ a, Bs (cx0 P w K mg base N qual scope (He.fAd K at_) (.ref (He.codeOf K at_)) A outer s H E) noX ([.imm a] ++ List.replicate (N.length - 1) .any) body fr (m a) post) :
    FnOk P w K mg base CX0 (k + 1) (He.fAd K at_) fd ps (spOf K fr (C1 fun a => retv (m a))) := by
  obtain ⟨oc, od, dV, kV, doc, pm, an, cdv, ct, osl, rfl, lk, hcd, _, _⟩ := F.ex
  obtain ⟨c, rfl⟩ := He.codeIn_ref hcd
  have ec : He.codeOf K at_ = c := He.codeOf_eq lk rfl
  subst ec
  refine fn_of lk hcd S (fun vs H Q E ⟨W, avs, r, _, pr, _, ⟨a, e, _⟩, _⟩ => by rw [pr.len, e, h1]; rfl) (fun A outer s H vs Q E hr ⟨W, avs, r, eh, pr, nm, ⟨a, e, hm⟩, q⟩ => ?_)
  subst eh e
  have hb := h A outer s W.h E hr a
  refine ⟨RunSs (cx0 P w K mg base N qual scope (He.fAd K at_) (.ref (He.codeOf K at_)) A outer s W.h E) body, PSs.nox pss_run, ?_⟩
  have hm : retv (m a) = some r := hm
  unfold retv at hm
  split at hm
  · rename_i b hb'
    cases hm
    exact hb.run (.ret r) hb' W W.s _ W _ (sr_start (avs := [.imm a]) (by show 1 ≤ _; omega) pr nm) fun v W' le _ rr hf => q v W' le rr hf
  · cases hm
end T
/-! typed layer: sorted, min, max, len(set(..)), index, clear -/
namespace T
open PySem PySem.Spec PyProof.Rows L2
open Evl (Ex)
open Rep (rel)
/-- data with Python's order -/
class Ordd (α : Type) extends Dat α where
  lt : α → α → Bool
  lt_eq : ∀ a b, PySem.W.dataLt (toD a) (toD b) = lt a b
  ak : ∀ a b, PySem.W.alike (toD a) (toD b) = true
  nn : ∀ a, toD a ≠ .none
  so : (∀ a, ∃ x r, toD a = .tuple (x :: r)) ∨ ∀ a, toD a ≠ .none ∧ ∀ xs, toD a ≠ .tuple xs
instance : Ordd Int where
  lt := fun a b => decide (a < b)
  lt_eq := fun a b => PySem.W.dataLt_int a b
  ak := fun a b => rfl
  nn := fun a z => by cases z
  so := .inr fun a => ⟨fun z => (by cases z), fun xs z => (by cases z)⟩
instance : Ordd (Int × Int) where
  lt := fun a b => decide (a.1 < b.1 ∨ (a.1 = b.1 ∧ a.2 < b.2))
  lt_eq := fun a b => PySem.W.dataLt_ii a.1 a.2 b.1 b.2
  ak := fun a b => rfl
  nn := fun a z => by cases z
  so := .inl fun a => ⟨_, _, rfl⟩
/-- sorted(xs) by values -/
def rSrtD (K : PySem.W.Frag) (β : Type) [Ordd β] : List V → Hp → VK → Prop := fun vs H Q => ∃ (a : Addr) (xs : List V) (bs : List β) (F : V → β → Prop), vs = [V.ref a] ∧ SqL K H a xs ∧ Paired F xs bs ∧ (∀ x b, F x b → Dp K H x (Dat.toD b)) ∧
  ∀ ys p, Paired F ys (bs.mergeSort fun x y => !Ordd.lt y x) → H p = none → Q (.ref p) (upd H p (.lst ys))
theorem each_of {β : Type} {F : V → β → Prop} : ∀ {xs : List V} {bs : List β} {us : List Value}, Paired F xs bs → Vals xs us → PySem.W.EachIs (fun v b => ∃ x, RelV x v ∧ F x b) us bs
  | _, _, _, .nil, h => by cases h; exact .nil
  | _, _, _, .cons f t, h => by
    cases h with
    | cons r h => exact .cons ⟨_, r, f⟩ (each_of t h)
theorem each_to {β : Type} {F : V → β → Prop} {us : List Value} {bs : List β} (h : PySem.W.EachIs (fun v b => ∃ x, RelV x v ∧ F x b) us bs) : ∃ xs, Vals xs us ∧ Paired F xs bs := by
  induction h with
  | nil => exact ⟨[], .nil, .nil⟩
  | cons h _ ih =>
    obtain ⟨x, r, f⟩ := h
    obtain ⟨xs, h1, h2⟩ := ih
    exact ⟨x :: xs, .cons r h1, .cons f h2⟩
theorem each_imp {α β : Type} {R R' : α → β → Prop} {as : List α} {bs : List β} (h : PySem.W.EachIs R as bs) (f : ∀ a b, R a b → R' a b) : PySem.W.EachIs R' as bs := by
  induction h with
  | nil => exact .nil
  | cons h _ ih => exact .cons (f _ _ h) ih
theorem depthAll_le {β : Type} [Dat β] : ∀ bs : List β, PyData.depthAll (bs.map Dat.toD) ≤ Dat.deep β + 1
  | [] => by rw [List.map_nil]; simp only [PyData.depthAll]; omega
  | b :: bs => by
    have h1 := depthAll_le bs
    have h2 := Dat.dep b
    rw [List.map_cons]
    simp only [PyData.depthAll]
    omega
variable [Tb]
section
variable {X : Cx} {ρ : List SV} {pos : Pos} {e a b : Expr}
theorem cr_srtD {β : Type} [Ordd β] (hr : X.A.units + 64 < cLine) (hd : Dat.deep β ≤ 32) : CallR X (.builtin "sorted") (rSrtD X.K β) := by
  intro pins s σ H vs us Q I r h
  obtain ⟨l, xs, bs, F, rfl, hq, hp, hF, q⟩ := h
  obtain rfl := Vals.ref1 r
  obtain ⟨its, rv, pl, hz⟩ := I.list hq
  have e1 := each_of hp rv
  have hlen : bs.length = xs.length := (plen hp).symm
  refine PySem.W.sorted_data (enc := Dat.toD) (bs := bs) pl.isList e1 (each_imp e1 fun v b ⟨x, hx, f⟩ => Dp.reads I _ _ _ (hF x b f) hx) (PySem.W.AllAlike.of Ordd.ak) ?_ (by omega) (fun b _ => ?_) fun out hlo eo => ?_
  · rcases Ordd.so (α := β) with h | h
    · exact PySem.W.Sortable.tuples h
    · exact PySem.W.Sortable.others h
  · have := Dat.dep b
    omega
  · rw [PySem.W.dataLe_eq] at eo
    simp only [cond_false, Ordd.lt_eq] at eo
    obtain ⟨ys, hy, hp2⟩ := each_to eo
    obtain ⟨ep, he'⟩ := PyProof.Rows.sortedAll_at s.heap its out.toArray
    refine ⟨.ref _, upd H (s.heap.objs.size + 1) (.lst ys), I.laid (t' := s.toks) (fun _ _ => PyProof.Rows.sortedAll_old) (Nat.le_succ _) ⟨?_, _, ep, hy, he'⟩, rfl, q _ _ hp2 (I.hok.fresh (Nat.le_succ _))⟩
    have := plen hp2
    rw [List.length_mergeSort] at this
    omega
def osort {α : Type} [Ordd α] (o : Option (List α)) : Option (List α) := o.bind fun l => some (l.mergeSort fun x y => !Ordd.lt y x)
theorem ep_sorted {α : Type} [Ordd α] {o : Option (List α)} {p1 : Pos} (hr : X.A.units + 64 < cLine) (hg : Gl X "sorted") (hm : X.mg "sorted" = none) (ha : Lp X ρ a o) (hst : NS X a := by intro _; rfl) (hd : Dat.deep α ≤ 32 := by decide) : EpF X ρ (.Call (.Name "sorted" p1) [a] [] pos) (osort o) := .mk fun z hz We B σ W Q S k => by
  obtain ⟨l, hl, hz⟩ := bind_some hz
  cases hz
  refine useE (pe_callB (cr_srtD (β := α) hr hd) hg hm boot_sorted (pa_cons pe_run pa_nil (hst _)) (he := hst _)) (ha.run l hl We B σ W _ S fun p vs W1 l1 hp r1 => ⟨p, vs, l, fun v x => rel X.K W1.s v x, rfl, .of hp, r1, fun x b f => Dp.mono' W1.e _ _ (Dat.dp f), fun ys n hy hn => ?_⟩)
  have l2 := Wd.Le.new W1 (.lst ys) hn
  exact k n ys (W1.new n (.lst ys) hn) (l1.trans l2) (l1.h.back (fre_of hn)) upd_same (pmono (fun _ _ h => Rep.mono l2.s h) hy)
theorem dpAll_ofF {β : Type} [Dat β] {K : PySem.W.Frag} {H : Hp} {F : V → β → Prop} (hF : ∀ x b, F x b → Dp K H x (Dat.toD b)) : ∀ {xs : List V} {bs : List β}, Paired F xs bs → DpAll K H xs (bs.map Dat.toD)
  | _, _, .nil => .nil
  | _, _, .cons f t => .cons (hF _ _ f) (dpAll_ofF hF t)

def minF {β : Type} [Ordd β] (b : β) (bs : List β) : β := bs.foldl (fun a y => if Ordd.lt y a then y else a) b
theorem minF_eq {β : Type} [Ordd β] : ∀ (bs : List β) (b : β), PySem.W.minD (Dat.toD b) (bs.map Dat.toD) = Dat.toD (minF b bs)
  | [], _ => rfl
  | y :: bs, b => by
    have e : PySem.W.minD (Dat.toD b) ((y :: bs).map Dat.toD) = PySem.W.minD (if PySem.W.dataLt (Dat.toD y) (Dat.toD b) then Dat.toD y else Dat.toD b) (bs.map Dat.toD) := rfl
    have e2 : minF b (y :: bs) = minF (if Ordd.lt y b then y else b) bs := rfl
    rw [e, e2, Ordd.lt_eq, ← minF_eq bs]
    congr 1
    split <;> rfl
def rMinD (K : PySem.W.Frag) (β : Type) [Ordd β] : List V → Hp → VK → Prop := fun vs H Q => ∃ (l : Addr) (xs : List V) (b : β) (bs : List β) (F : V → β → Prop), vs = [V.ref l] ∧ (SqL K H l xs ∨ SqT K H l xs) ∧ Paired F xs (b :: bs) ∧ (∀ x b, F x b → Dp K H x (Dat.toD b)) ∧ ∀ y, F y (minF b bs) → Q y H
theorem cr_minD {β : Type} [Ordd β] (hc : X.calm = true) (hr : X.A.units + 64 < cLine) (hd : Dat.deep β ≤ 32) : CallR X (.builtin "min") (rMinD X.K β) := by
  intro pins s σ H vs us Q I r h
  obtain ⟨l, xs, b, bs, F, rfl, hq, hp, hF, q⟩ := h
  obtain rfl := Vals.ref1 r
  have hdp := depthAll_le (b :: bs)
  rw [List.map_cons] at hdp
  have hak : PySem.W.AlikeAll ((b :: bs).map Dat.toD) := ⟨fun x hx y hy => by
    obtain ⟨x', _, rfl⟩ := List.mem_map.mp hx
    obtain ⟨y', _, rfl⟩ := List.mem_map.mp hy
    exact Ordd.ak x' y', fun x hx => by
    obtain ⟨x', _, rfl⟩ := List.mem_map.mp hx
    exact Ordd.nn x'⟩
  have core : ∀ (its : List Value), Vals xs its → ∀ (i : Nat) (v : Value) (h' : Heap) (tk : Nat) (as : List Addr), its.toArray[i]? = some v → Reads h' v (PySem.W.minD (Dat.toD b) (bs.map Dat.toD)) as → (∀ b o, s.heap.get? b = some o → h'.get? b = some o) →
      EP X pins σ Q v { s with heap := h', toks := tk } := fun its rv i v h' tk as hv hR kp => by
    have hv : its[i]? = some v := by simpa using hv
    obtain ⟨y, hy, ry⟩ := paired_get rv hv
    have hi : i < (b :: bs).length := by rw [← plen hp]; exact (List.getElem?_eq_some_iff.mp hy).1
    obtain ⟨y2, hy2, fy⟩ := paired_get hp (List.getElem?_eq_getElem hi)
    rw [hy] at hy2
    cases hy2
    obtain ⟨as2, rd⟩ := Dp.reads I _ _ _ (hF _ _ fy) ry
    have e1 := SeqAt.readOf_eq (Dat.lay _) (PySem.W.reads_keeps kp rd)
    rw [minF_eq] at hR
    have e2 := SeqAt.readOf_eq (Dat.lay _) hR
    have e3 : (b :: bs)[i] = minF b bs := by
      refine (Dat.eqv _ _).mp ?_
      rw [← e2, e1]
      exact (Dat.eqv _ _).mpr rfl
    rw [e3] at fy
    exact ⟨y, H, I.kept kp, ry, q y fy⟩
  rcases hq with hq | hq
  · obtain ⟨its, rv, pl, hz⟩ := I.list hq
    obtain ⟨as, hra⟩ := Dp.readsAll I _ _ _ (dpAll_ofF hF hp) rv
    exact PySem.W.min_list_data (x := Dat.toD b) (xs := bs.map Dat.toD) (I.ok.hd hc) pl.isList hra hak (by omega) (core its rv)
  · obtain ⟨its, rv, pl, hz⟩ := I.tuple hq
    obtain ⟨as, hra⟩ := Dp.readsAll I _ _ _ (dpAll_ofF hF hp) rv
    exact PySem.W.min_tuple_data (x := Dat.toD b) (xs := bs.map Dat.toD) (I.ok.hd hc) pl hra hak (by omega) (core its rv)
/-- min of a list, of a walked tuple -/
def ominL {α : Type} [Ordd α] (o : Option (List α)) : Option α := o.bind fun l => match l with
  | [] => none
  | b :: bs => some (minF b bs)
theorem ep_minL {α : Type} [Ordd α] {o : Option (List α)} {p1 : Pos} (hc : X.calm = true) (hr : X.A.units + 64 < cLine) (hg : Gl X "min") (hm : X.mg "min" = none) (ha : Lp X ρ a o) (hst : NS X a := by intro _; rfl) (hd : Dat.deep α ≤ 32 := by decide) : Ep X ρ (.Call (.Name "min" p1) [a] [] pos) (ominL o) := .mk fun z hz We B σ W Q S k => by
  obtain ⟨l, hl, hz⟩ := bind_some hz
  cases l with
  | nil => cases hz
  | cons b bs =>
    cases hz
    exact useE (pe_callB (cr_minD (β := α) hc hr hd) hg hm (by decide +kernel) (pa_cons pe_run pa_nil (hst _)) (he := hst _)) (ha.run _ hl We B σ W _ S fun p vs W1 l1 hp r1 => ⟨p, vs, b, bs, fun v x => rel X.K W1.s v x, rfl, .inl (.of hp), r1, fun x b f => Dp.mono' W1.e _ _ (Dat.dp f), fun y fy => k y W1 l1 fy⟩)
theorem ep_minU {α : Type} [Ordd α] {o : Option (List α)} {p1 : Pos} (hc : X.calm = true) (hr : X.A.units + 64 < cLine) (hg : Gl X "min") (hm : X.mg "min" = none) (ha : Up X ρ a o) (hst : NS X a := by intro _; rfl) (hd : Dat.deep α ≤ 32 := by decide) : Ep X ρ (.Call (.Name "min" p1) [a] [] pos) (ominL o) := .mk fun z hz We B σ W Q S k => by
  obtain ⟨l, hl, hz⟩ := bind_some hz
  cases l with
  | nil => cases hz
  | cons b bs =>
    cases hz
    exact useE (pe_callB (cr_minD (β := α) hc hr hd) hg hm (by decide +kernel) (pa_cons pe_run pa_nil (hst _)) (he := hst _)) (ha.run _ hl We B σ W _ S fun p vs W1 l1 hp r1 => ⟨p, vs, b, bs, fun v x => rel X.K W1.s v x, rfl, .inr (hp.mono W1.e).sq, r1, fun x b f => Dp.mono' W1.e _ _ (Dat.dp f), fun y fy => k y W1 l1 fy⟩)

def maxF {β : Type} [Ordd β] (b : β) (bs : List β) : β := bs.foldl (fun a y => if Ordd.lt a y then y else a) b
theorem maxF_eq {β : Type} [Ordd β] : ∀ (bs : List β) (b : β), PySem.W.maxD (Dat.toD b) (bs.map Dat.toD) = Dat.toD (maxF b bs)
  | [], _ => rfl
  | y :: bs, b => by
    have e : PySem.W.maxD (Dat.toD b) ((y :: bs).map Dat.toD) = PySem.W.maxD (if PySem.W.dataLt (Dat.toD b) (Dat.toD y) then Dat.toD y else Dat.toD b) (bs.map Dat.toD) := rfl
    have e2 : maxF b (y :: bs) = maxF (if Ordd.lt b y then y else b) bs := rfl
    rw [e, e2, Ordd.lt_eq, ← maxF_eq bs]
    congr 1
    split <;> rfl
def rMaxD (K : PySem.W.Frag) (β : Type) [Ordd β] : List V → Hp → VK → Prop := fun vs H Q => ∃ (l : Addr) (xs : List V) (b : β) (bs : List β) (F : V → β → Prop), vs = [V.ref l] ∧ (SqL K H l xs ∨ SqT K H l xs) ∧ Paired F xs (b :: bs) ∧ (∀ x b, F x b → Dp K H x (Dat.toD b)) ∧ ∀ y, F y (maxF b bs) → Q y H
theorem cr_maxD {β : Type} [Ordd β] (hc : X.calm = true) (hr : X.A.units + 64 < cLine) (hd : Dat.deep β ≤ 32) : CallR X (.builtin "max") (rMaxD X.K β) := by
  intro pins s σ H vs us Q I r h
  obtain ⟨l, xs, b, bs, F, rfl, hq, hp, hF, q⟩ := h
  obtain rfl := Vals.ref1 r
  have hdp := depthAll_le (b :: bs)
  rw [List.map_cons] at hdp
  have hak : PySem.W.AlikeAll ((b :: bs).map Dat.toD) := ⟨fun x hx y hy => by
    obtain ⟨x', _, rfl⟩ := List.mem_map.mp hx
    obtain ⟨y', _, rfl⟩ := List.mem_map.mp hy
    exact Ordd.ak x' y', fun x hx => by
    obtain ⟨x', _, rfl⟩ := List.mem_map.mp hx
    exact Ordd.nn x'⟩
  have core : ∀ (its : List Value), Vals xs its → ∀ (i : Nat) (v : Value) (h' : Heap) (tk : Nat) (as : List Addr), its.toArray[i]? = some v → Reads h' v (PySem.W.maxD (Dat.toD b) (bs.map Dat.toD)) as → (∀ b o, s.heap.get? b = some o → h'.get? b = some o) →
      EP X pins σ Q v { s with heap := h', toks := tk } := fun its rv i v h' tk as hv hR kp => by
    have hv : its[i]? = some v := by simpa using hv
    obtain ⟨y, hy, ry⟩ := paired_get rv hv
    have hi : i < (b :: bs).length := by rw [← plen hp]; exact (List.getElem?_eq_some_iff.mp hy).1
    obtain ⟨y2, hy2, fy⟩ := paired_get hp (List.getElem?_eq_getElem hi)
    rw [hy] at hy2
    cases hy2
    obtain ⟨as2, rd⟩ := Dp.reads I _ _ _ (hF _ _ fy) ry
    have e1 := SeqAt.readOf_eq (Dat.lay _) (PySem.W.reads_keeps kp rd)
    rw [maxF_eq] at hR
    have e2 := SeqAt.readOf_eq (Dat.lay _) hR
    have e3 : (b :: bs)[i] = maxF b bs := by
      refine (Dat.eqv _ _).mp ?_
      rw [← e2, e1]
      exact (Dat.eqv _ _).mpr rfl
    rw [e3] at fy
    exact ⟨y, H, I.kept kp, ry, q y fy⟩
  rcases hq with hq | hq
  · obtain ⟨its, rv, pl, hz⟩ := I.list hq
    obtain ⟨as, hra⟩ := Dp.readsAll I _ _ _ (dpAll_ofF hF hp) rv
    exact PySem.W.max_list_data (x := Dat.toD b) (xs := bs.map Dat.toD) (I.ok.hd hc) pl.isList hra hak (by omega) (core its rv)
  · obtain ⟨its, rv, pl, hz⟩ := I.tuple hq
    obtain ⟨as, hra⟩ := Dp.readsAll I _ _ _ (dpAll_ofF hF hp) rv
    exact PySem.W.max_tuple_data (x := Dat.toD b) (xs := bs.map Dat.toD) (I.ok.hd hc) pl hra hak (by omega) (core its rv)
/-- max of a list, of a walked tuple -/
def omaxL {α : Type} [Ordd α] (o : Option (List α)) : Option α := o.bind fun l => match l with
  | [] => none
  | b :: bs => some (maxF b bs)
theorem ep_maxL {α : Type} [Ordd α] {o : Option (List α)} {p1 : Pos} (hc : X.calm = true) (hr : X.A.units + 64 < cLine) (hg : Gl X "max") (hm : X.mg "max" = none) (ha : Lp X ρ a o) (hst : NS X a := by intro _; rfl) (hd : Dat.deep α ≤ 32 := by decide) : Ep X ρ (.Call (.Name "max" p1) [a] [] pos) (omaxL o) := .mk fun z hz We B σ W Q S k => by
  obtain ⟨l, hl, hz⟩ := bind_some hz
  cases l with
  | nil => cases hz
  | cons b bs =>
    cases hz
    exact useE (pe_callB (cr_maxD (β := α) hc hr hd) hg hm (by decide +kernel) (pa_cons pe_run pa_nil (hst _)) (he := hst _)) (ha.run _ hl We B σ W _ S fun p vs W1 l1 hp r1 => ⟨p, vs, b, bs, fun v x => rel X.K W1.s v x, rfl, .inl (.of hp), r1, fun x b f => Dp.mono' W1.e _ _ (Dat.dp f), fun y fy => k y W1 l1 fy⟩)
theorem ep_maxU {α : Type} [Ordd α] {o : Option (List α)} {p1 : Pos} (hc : X.calm = true) (hr : X.A.units + 64 < cLine) (hg : Gl X "max") (hm : X.mg "max" = none) (ha : Up X ρ a o) (hst : NS X a := by intro _; rfl) (hd : Dat.deep α ≤ 32 := by decide) : Ep X ρ (.Call (.Name "max" p1) [a] [] pos) (omaxL o) := .mk fun z hz We B σ W Q S k => by
  obtain ⟨l, hl, hz⟩ := bind_some hz
  cases l with
  | nil => cases hz
  | cons b bs =>
    cases hz
    exact useE (pe_callB (cr_maxD (β := α) hc hr hd) hg hm (by decide +kernel) (pa_cons pe_run pa_nil (hst _)) (he := hst _)) (ha.run _ hl We B σ W _ S fun p vs W1 l1 hp r1 => ⟨p, vs, b, bs, fun v x => rel X.K W1.s v x, rfl, .inr (hp.mono W1.e).sq, r1, fun x b f => Dp.mono' W1.e _ _ (Dat.dp f), fun y fy => k y W1 l1 fy⟩)
end
/-! ### len(set(ints)) -/
def dd {α : Type} [DecidableEq α] (l : List α) : List α := l.foldl (fun s v => if v ∈ s then s else s ++ [v]) []
theorem foldl_dd : ∀ (l s : List Int), l.foldl PyProof.Rows.step_dedup s = l.foldl (fun s v => if v ∈ s then s else s ++ [v]) s
  | [], _ => rfl
  | v :: l, s => by
    have e : PyProof.Rows.step_dedup s v = if v ∈ s then s else s ++ [v] := by
      unfold PyProof.Rows.step_dedup
      by_cases h : v ∈ s
      · rw [if_pos h, if_pos (List.any_eq_true.mpr ⟨v, h, by simp⟩)]
      · rw [if_neg h, if_neg fun z => by
          obtain ⟨x, h1, h2⟩ := List.any_eq_true.mp z
          exact h (by rw [← beq_iff_eq.mp h2]; exact h1)]
    rw [List.foldl_cons, List.foldl_cons, e]
    exact foldl_dd l _
theorem range_getD (ns : List Int) : (List.range ns.length).map (fun i => ns.getD i 0) = ns := by
  refine List.ext_getElem (by simp) fun i h1 h2 => ?_
  rw [List.getElem_map, List.getElem_range, List.getD_eq_getElem?_getD, List.getElem?_eq_getElem h2]
  rfl
theorem firstMet_dd (ns : List Int) : PyProof.Rows.firstMet (fun i => ns.getD i 0) ns.length = dd ns := by
  unfold PyProof.Rows.firstMet
  rw [range_getD, foldl_dd]
  rfl
def osetl (o : Option (List Int)) : Option Int := o.bind fun l => if decide (l.length ≤ 4000) then some ((dd l).length : Int) else none
section
variable {X : Cx} {ρ : List SV} {pos : Pos} {e a b : Expr}
theorem ep_lenset {o : Option (List Int)} {p1 p2 p3 : Pos} (hc : X.calm = true) (hg : Gl X "len") (hm : X.mg "len" = none) (hg2 : Gl X "set") (hm2 : X.mg "set" = none) (ha : Lp X ρ a o) (na : NS X a := by intro _; rfl) :
    Ep X ρ (.Call (.Name "len" p1) [.Call (.Name "set" p2) [a] [] p3] [] pos) (osetl o) := .mk fun z hz We B σ W Q S k => by
  obtain ⟨l, hl, hz⟩ := bind_some hz
  split at hz
  · rename_i hsz
    cases hz
    have hsz := of_decide_eq_true hsz
    have P : PE X (.Call (.Name "len" p1) [.Call (.Name "set" p2) [a] [] p3] [] pos) (fun σ H Q => RunE X a σ H fun x H1 => ∃ (l : Addr) (ns : List Int), x = V.ref l ∧ SqL X.K H1 l (ns.map V.int) ∧ ns.length ≤ 4000 ∧ Q (.int (dd ns).length) H1) := by
      refine ⟨fun pins s σ H Q I h => Call_ (ld_blt I hg hm PySem.boot_len (PyProof.Rows.callWith_builtin1 (PyProof.Rows.args_cons (Call_ (ld_blt I hg2 hm2 PyProof.Rows.boot_set (PyProof.Rows.callWith_type1 (PyProof.Rows.args_cons ?_ (na _)) (na _) rfl))) rfl) rfl rfl))⟩
      refine thn ((pe_run (X := X) (e := a)).run pins s σ H _ I h) fun v s1 ⟨x, H1, I1, r1, l, ns, ex, hq, hn, q1⟩ => PyProof.Rows.args_nil ?_
      subst ex
      cases r1
      obtain ⟨its, r, pl, hz⟩ := I1.list hq
      have hl : its.toArray.size = ns.length := by rw [List.size_toArray, ← r.length, List.length_map]
      refine call_set_list (I1.ok.hd hc) pl.isList (ns := ns) (by simpa using r.ints) (by unfold scanBound; omega) fun h' tk hS hk => ?_
      rw [hl, firstMet_dd] at hS
      obtain ⟨ob, es, ep, t, ho, hex, hd, _, _, _, hf, hn'⟩ := hS
      have I2 : Inv X pins σ H1 { s1 with heap := h', toks := tk } := I1.kept fun b o e => hk b o (Heap.lt_size e) e
      have hle : (dd ns).length ≤ ns.length := by rw [← firstMet_dd]; exact PyProof.Rows.firstMet_length_le _ _
      exact PyProof.Rows.args_nil (call_len_set ho hex hd hf (by rw [hn'] <;> omega) ⟨.int (dd ns).length, H1, I2.tok _, ⟨_, by rw [hn']⟩, q1⟩)
    exact useE P (ha.run l hl We B σ W _ S fun p vs W1 l1 hp r1 => ⟨p, l, rfl, by rw [← ints_eq r1]; exact .of hp, hsz, k _ W1 l1 rfl⟩)
  · cases hz
/-! ### xs.index(x) -/
def oindx {α : Type} [DecidableEq α] (o : Option (List α)) (x : Option α) : Option Int := bind2 o x fun l a => if a ∈ l then some (l.idxOf a : Int) else none
theorem ep_index {α : Type} [Dat α] [DecidableEq α] {oa : Option (List α)} {ob : Option α} {p1 : Pos} (hu : X.A.units + 65 < cLine) (ha : Lp X ρ a oa) (hb : Ep X ρ b ob) (hd : Dat.deep α ≤ 63 := by decide)
    (hbase : attributeBase a "index" X.env (eval a X.env) = eval a X.env := by rfl)
    (hfew : ((backTo pos (starEach [b] X.env)).all (fun x => !x.1) && (backToKw pos (keywordEach [] X.env)).all (fun x => x.1.isSome)
      && decide ([b].length + ([] : List Keyword).length + (if ([] : List Keyword).isEmpty then 0 else 1) < 30)) = true := by rfl)
    (hline : (p1.endLine == pos.line) = true := by rfl) (hst : NS X b := by intro _; rfl) :
    Ep X ρ (.Call (.Attribute a "index" p1) [b] [] pos) (oindx oa ob) := .mk fun z hz We B σ W Q S k => by
  obtain ⟨l, x, hl, hx, hz⟩ := bind2_some hz
  split at hz
  · rename_i hm
    cases hz
    refine useE (pe_bm PySem.F.plainAttrs_list PySem.F.slot_list_index PySem.F.type_list_index (mt_indexD hu) pe_run (pa_cons pe_run pa_nil (hst _)) hbase hfew hline (hst _)) ?_
    refine ha.run l hl We B σ W _ S fun p vs W1 l1 hp r1 => ⟨.inl ⟨rfl, _, .of hp⟩, hb.run x hx We B σ W1 _ (S.mono l1) fun u W2 l2 r2 => ?_⟩
    have r1' := pmono (fun _ _ h => Rep.mono (Ex.trans l2.s W2.e) h) r1
    have hi : l.idxOf x < l.length := List.idxOf_lt_length_iff.mpr hm
    refine ⟨p, u, Dat.toD x, l.map Dat.toD, l.idxOf x, Dat.toD x, rfl, rfl, .lst (.of (l2.h _ _ hp rfl)) (dpAll_of r1'), Dp.mono' W2.e _ _ (Dat.dp r2), shaped_of (α := List α) (Nat.succ_le_succ hd) l, shaped_of (Nat.le_trans hd (by decide)) x, ?_, (Dat.eqv x x).mpr rfl, fun m z' hmj hz' => ?_, k _ W2 (l1.trans l2) rfl⟩
    · rw [List.getElem?_map, List.getElem?_eq_getElem hi, List.getElem_idxOf hi]
      rfl
    · rw [List.getElem?_map] at hz'
      have hml : m < l.length := by omega
      rw [List.getElem?_eq_getElem hml] at hz'
      cases hz'
      rw [eqv_dec]
      refine decide_eq_false fun e => ?_
      have := List.not_of_lt_findIdx (p := fun y => y == x) (xs := l) (i := m) hmj
      simp [e] at this
  · cases hz
/-! ### x.clear() -/
variable {rest : List Stmt} {xx : Nat → Hp → Prop} {β γ : Type} [Rep β] {fr : Bool} {post : γ → List SV}
theorem bs_clear {α : Type} [Rep α] {xs : ML α} {m : Option (Out β γ)} {x : Str} {p0 p1 p2 : Pos} (i : Nat) (hr : Bs X xx (ρ.set i (.mut (ML.mk ([] : List α)))) rest fr m post) (hρ : ρ[i]? = some (.mut xs) := by rfl)
    (hN : X.N[i]? = some x := by rfl) (hv : Vis X.env.scope x := by first | exact Or.inl rfl | exact Or.inr (Or.inl rfl) | exact Or.inr (Or.inr rfl)) (hd : (x == ("__debug__" : Str)) = false := by decide)
    (hcd : (x == ("__classdict__" : Str)) = false := by decide) (hbase : attributeBase (.Name x p0) "clear" X.env (eval (.Name x p0) X.env) = eval (.Name x p0) X.env := by rfl)
    (hline : (p1.endLine == p2.line) = true := by rfl) (hs : swapsWith (.Call (.Attribute (.Name x p0) "clear" p1) [] [] p2) none pos.line X.env = pure false := by rfl) :
    Bs X xx ρ (.Expr (.Call (.Attribute (.Name x p0) "clear" p1) [] [] p2) pos :: rest) fr m post := .mk fun out ho We B σ W D S k => by
  obtain ⟨l, ob, e1, n1, n2, hh, vs, rfl, r⟩ := S.at_ i _ hρ
  refine useSs (pss_cons (ps_expr (pe_bm0 PySem.F.plainAttrs_list PySem.F.slot_list_clear PySem.F.type_list_clear mt_clear (pe_var hN hv hd hcd) hbase hline) hs) pss_run) ?_
  refine ⟨_, e1, .inl ⟨rfl, _, .of hh⟩, l, vs, rfl, rfl, hh, ?_⟩
  obtain ⟨W2, e2, S2⟩ := S.mutate (δ := ML α) (m' := ML.mk ([] : List α)) (ob := .lst []) hρ e1 (show MRep.orel X.K W.s _ _ (ML.mk ([] : List α)) from ⟨_, rfl, .nil⟩)
  have q := hr.run out ho We B _ W2 D S2 k
  rw [e2] at q
  exact q
end
end T
/-! typed layer: list(reversed(xs)) -/
namespace T
open PySem PySem.Spec PyProof.Rows L2
section
variable {prog : Program} {w : World} {A : Around} {E : Value → Shared → Prop} {s : Shared}
/-- S gets what the reversed walk at it gives -/
theorem grow_rv {R : Result → Shared → Prop} {it l S : Addr} {its : Array Value} {e0 : Nat} (hh : A.handled = none) (hit : s.heap.IsRevIter it l ((its.size : Int) - 1)) (hl : s.heap.IsList l its)
    (hne : l ≠ it) (hn : its.size ≤ sizeLine) (hSi : S ≠ it) (hSl : S ≠ l) (hS : s.heap.get? S = some { cls := .type "list", data := .seq #[] e0 }) (res : Value)
    (hR : ∀ (h' : Heap) (tk : Nat) (acc : Array Value) (c' : Nat), (∀ b o, b ≠ S → b ≠ it → s.heap.get? b = some o → h'.get? b = some o) → h'.get? S = some { cls := .type "list", dict := none, data := .seq acc c', slots := #[] } →
      ItemsOf (fun i v => its[its.size - 1 - i]? = some v) acc its.size → R (.ok (.ret res)) { s with heap := h', toks := tk }) :
    wpAny (model prog w) A.in1 (Builtin.List.listExtendWith (.ref S) (.ref it) res)
      (fun fin s' => match fin with
        | .done f => R (.ok f) s'
        | .again c' => c'.quiet = true ∧ codeAny (model prog w) A c' R s') (fun e s' => R (.error e) s') s := by
  have walk := (Walks.listRev (prog := prog) (w := w) (A := A.in1) hh it l hne its).toS
  have out : S ∉ [it, l] := by
    intro z
    rcases List.mem_cons.mp z with z | z
    · exact hSi z
    · exact hSl (List.mem_singleton.mp z)
  have ty := hit.typeIs
  have notSame : Builtin.List.listSameRef (.ref S) (.ref it) = false := by simp [Builtin.List.listSameRef, hSi]
  unfold Builtin.List.listExtendWith
  refine wpAny_bind (wpAny_typeOf ty ?_)
  rw [if_neg (by rw [notSame]; exact fun z => (by revert z; decide))]
  refine wpAny_bind (wpAny_pyIter_revIter hit (wpAny_bind (wpAny_holding ?_)))
  unfold Builtin.List.listLengthHint
  refine wpAny_bind (wpAny_specialOf ty RT.nolen_lri ?_)
  refine wpAny_bind (m := specialOf (Value.ref it) (Str.ofString "__length_hint__")) (wpAny_specialOf ty RT.hint_lri ?_)
  generalize hid : ("list_reverseiterator.__length_hint__" : String) = idv
  wp_delta
  rw [show splitId idv = some ("list_reverseiterator", "__length_hint__") by rw [← hid]; decide +kernel]
  subst hid
  refine wpAny_bind (wpAny_isInstance (b := true) ty (by rw [isSubtype_type]; kernel_rfl) (wpAny_pure ?_))
  rw [if_neg (by exact fun z => (by revert z; decide))]
  have ee : ((its.size : Nat) : Int) - 1 - ((0 : Nat) : Int) = (its.size : Int) - 1 := Int.sub_zero _
  refine wpAny_pure ⟨plainId_quiet F.plain_extend_loop _, codeAny_extend_loopS walk hn S out res its.size 0 _ _ _ rfl (Nat.zero_le _) ⟨Nat.zero_le _, by rw [ee]; exact hit, hl⟩ hS (ItemsOf.nil _) fun s' acc' c' hm hS' hacc => ?_⟩
  rw [Moved.eq_with hm]
  exact hR s'.heap s'.toks acc' c' (fun b o h1 h2 e => hm.heap b o (fun z => by
    rcases List.mem_cons.mp z with z | z
    · exact h1 z
    · exact h2 (List.mem_singleton.mp z)) e) hS' hacc
/-- list(it) -/
theorem call_list_rv {Q : Value → Shared → Prop} {it l : Addr} {its : Array Value} (hh : A.handled = none) (hit : s.heap.IsRevIter it l ((its.size : Int) - 1)) (hl : s.heap.IsList l its) (hne : l ≠ it) (hn : its.size ≤ sizeLine)
    (hQ : ∀ (h' : Heap) (tk : Nat) (acc : Array Value) (c' : Nat), (∀ b o, b ≠ it → s.heap.get? b = some o → h'.get? b = some o) → h'.get? s.heap.objs.size = some { cls := .type "list", dict := none, data := .seq acc c', slots := #[] } →
      ItemsOf (fun i v => its[its.size - 1 - i]? = some v) acc its.size → Q (.ref s.heap.objs.size) { s with heap := h', toks := tk }) :
    wpAny (model prog w) A (call (.type "list") [.ref it]) Q E s := by
  refine callType_codes (Q₁ := fun ob s₁ => ob = .ref s.heap.objs.size ∧ s₁ = { s with heap := s.heap.push { cls := .type "list", data := .seq #[] } }) F.called_list (F.typeCall_list_1 _) F.entry_list_init (code_list_new _ ⟨rfl, rfl⟩) ?_
  rintro ob s₁ ⟨rfl, rfl⟩
  obtain ⟨oi, hoi, _⟩ := id hit
  obtain ⟨ol, hol, _⟩ := id hl
  have n1 : s.heap.objs.size ≠ it := Nat.ne_of_gt (Heap.lt_size hoi)
  have n2 : s.heap.objs.size ≠ l := Nat.ne_of_gt (Heap.lt_size hol)
  have top : (s.heap.push { cls := .type "list", data := .seq #[] }).get? s.heap.objs.size = some { cls := .type "list", data := .seq #[] } := Heap.get?_push_size _ rfl
  refine ⟨⟨_, top, rfl⟩, F.args_list_init_2 _ _, ?_⟩
  show wpAny _ _ (do
    let old ← Builtin.List.listItems (.ref s.heap.objs.size)
    Builtin.List.listUpdate (.ref s.heap.objs.size) (fun _ => #[])
    letGo old.toList.reverse
    Builtin.List.listExtendWith (.ref s.heap.objs.size) (.ref it) .none) _ _ _
  refine wpAny_bind ?_
  unfold Builtin.List.listItems
  refine wpAny_bind (wpAny_seqItems top rfl (wpAny_pure ?_))
  refine wpAny_bind (m := updateSeq s.heap.objs.size fun _ => (#[] : Array Value)) (wpAny_updateSeq top rfl (wpAny_bind (wpAny_letGo ?_)))
  have keep : ∀ b o, b ≠ s.heap.objs.size → s.heap.get? b = some o → ((s.heap.push { cls := .type "list", data := .seq #[] }).update s.heap.objs.size (Obj.mapSeq fun _ => (#[] : Array Value))).get? b = some o := fun b o h e =>
    (Heap.get?_update_other _ _ (Ne.symm h)).trans (Heap.get?_push_of_some _ e)
  refine grow_rv (A := A.in1) hh (Heap.IsRevIter.at hit fun o e => keep it o (Ne.symm n1) e) ?_ hne hn n1 n2 (Heap.get?_update_self (Obj.mapSeq fun _ => (#[] : Array Value)) top rfl) .none fun h' tk acc c' hk hS' hacc => ?_
  · obtain ⟨o, e1, e2, n, e3⟩ := hl
    exact ⟨o, keep l o (Ne.symm n2) e1, e2, n, e3⟩
  · exact ⟨rfl, hQ h' tk acc c' (fun b o hb e => hk b o (Nat.ne_of_lt (Heap.lt_size e)) hb (keep b o (Nat.ne_of_lt (Heap.lt_size e)) e)) hS' hacc⟩
end
variable [Tb] {X : Cx} {ρ : List SV} {pos : Pos} {a : Expr}
def orev {α : Type} (o : Option (List α)) : Option (List α) := o.bind fun l => some l.reverse
theorem ep_listV {α : Type} [Rep α] {o : Option (List α)} {p1 p2 p3 : Pos} (hc : X.calm = true) (hg : Gl X "list") (hm : X.mg "list" = none) (hg2 : Gl X "reversed") (hm2 : X.mg "reversed" = none) (ha : Lp X ρ a o) (hs : NS X a := by intro _; rfl)
    (hs2 : NS X (.Call (.Name "reversed" p2) [a] [] p3) := by intro _; rfl) : EpF X ρ (.Call (.Name "list" p1) [.Call (.Name "reversed" p2) [a] [] p3] [] pos) (orev o) := .mk fun z hz We B σ W Q S k => by
  obtain ⟨l, hl, hz⟩ := bind_some hz
  cases hz
  have P : PE X (.Call (.Name "list" p1) [.Call (.Name "reversed" p2) [a] [] p3] [] pos) (fun σ H Q => RunE X a σ H fun v H1 => ∃ (l : Addr) (xs : List V), v = .ref l ∧ SqL X.K H1 l xs ∧ ∀ q, H1 q = none → Q (.ref q) (upd H1 q (.lst xs.reverse))) := by
    refine ⟨fun pins s σ H Q I h => ?_⟩
    refine Call_ (ld_blt I hg hm boot_list (PyProof.Rows.callWith_type1 (args_cons (Call_ (ld_blt I hg2 hm2 PyProof.Rows.boot_reversed (PyProof.Rows.callWith_type1 (args_cons (thn ((pe_run (X := X) (e := a)).run pins s σ H _ I h) fun u s1 ⟨v, H1, I1, r1, l, xs, ev, hq, q⟩ => args_nil ?_) (hs _)) (hs _) rfl))) (hs2 _)) (hs2 _) rfl))
    subst ev
    obtain rfl : u = Value.ref l := r1
    obtain ⟨its, rv, pl, hz⟩ := I1.list hq
    refine call_reversed_list pl.isList (args_nil ?_)
    have I2 : Inv X pins σ H1 { s1 with heap := s1.heap.push (revObj l ((its.toArray.size : Int) - 1)) } := I1.kept (t' := s1.toks) fun b o e => Heap.get?_push_of_some _ e
    obtain ⟨f0, f1, f2, f3, f4, f5⟩ := I1.fpOk (H' := H1) (b := s1.heap.objs.size) (Nat.le_refl _) (I1.hok.fresh (Nat.le_refl _))
    have hl := pl.isList
    obtain ⟨ol, hol, _⟩ := id hl
    have hn : its.toArray.size ≤ sizeLine := by rw [List.size_toArray, ← rv.length]; exact hz
    refine call_list_rv (s := { s1 with heap := s1.heap.push (revObj l ((its.toArray.size : Int) - 1)) }) (I1.ok.hd hc) ⟨_, Heap.get?_push_size _ rfl, rfl, rfl⟩ (hl.push _) (Nat.ne_of_lt (Heap.lt_size hol)) hn fun h' tk acc c' hk he' hi => ?_
    have sz : (s1.heap.push (revObj l ((its.toArray.size : Int) - 1))).objs.size = s1.heap.objs.size + 1 := by
      simp [Heap.push]
    refine ⟨.ref _, upd H1 _ (.lst xs.reverse), I1.laid (t' := tk) (fun b o e => hk b o (Nat.ne_of_lt (Heap.lt_size e)) (Heap.get?_push_of_some _ e)) (by rw [sz]; exact Nat.le_succ _) (show ObjOk X.prog X.w _ _ _ (.lst xs.reverse) from ⟨by rw [List.length_reverse]; exact hz, acc.toList, c', RT.vals_rev rv hi, by rw [Array.toArray_toList]; exact he'⟩), rfl, q _ (I1.hok.fresh (by rw [sz]; exact Nat.le_succ _))⟩
  exact useE P (ha.run l hl We B σ W _ S fun p vs W1 l1 hp r1 => ⟨p, vs, rfl, .of hp, fun n hn => by
    have l2 := Wd.Le.new W1 (.lst vs.reverse) hn
    exact k n vs.reverse (W1.new n (.lst vs.reverse) hn) (l1.trans l2) (l1.h.back (fre_of hn)) upd_same (prev (pmono (fun _ _ h => Rep.mono l2.s h) r1))⟩)
end T
namespace T
open PySem PySem.Spec PyProof.Rows L2
open Evl (Ex)
variable [Tb] {X : Cx} {ρ : List SV} {pos : Pos} {a : Expr}
/-- isinstance(a list, t) -/
theorem ep_isiL {α : Type} [Rep α] {o : Option (List α)} {y : Str} {t : String} {p1 p3 : Pos} (r : Bool) (hm : X.mg "isinstance" = none) (hy : X.mg y = none) (hB : bootBuiltins y = some (.type t)) (hk : kitB "list" t = some r) (ha : Lp X ρ a o)
    (hg : Gl X "isinstance" := by rfl) (hgy : Gl X y := by rfl) (hst : NS X a := by intro _; rfl) (hnn : y ≠ "__name__" := by decide) (hdy : (y == ("__debug__" : Str)) = false := by decide) (hpl : (backTo pos (starEach [.Name y p3] X.env)).any (·.1) = false := by rfl) :
    Ep X ρ (.Call (.Name "isinstance" p1) [a, .Name y p3] [] pos) (oisi o r) := .mk fun z hz We B σ W Q S k => by
  obtain ⟨x, hx, hf⟩ := bind_some hz
  cases hf
  refine useE (pe_callB call_isi hg hm (by decide +kernel) (pa_cons pe_run (pa_cons (pe_bltn (v := .ty t) hgy hy hB rfl hnn hdy) pa_nil rfl) (hst _)) (he := hst _) (hpl := hpl)) (ha.run x hx We B σ W _ S fun p vs W1 l1 hp r1 => ?_)
  exact ⟨.ref p, .ty t, .type "list", .type t, r, rfl, .ty t, .base (.lst hp), kit_ty hk, k _ W1 l1 rfl⟩
end T
/-! typed layer: tuples cut, joined, looked through -/
namespace T
open PySem PySem.Spec PyProof.Rows L2
open Evl (Ex)
open Rep (rel)
theorem dataLt_tri (x y z x' y' z' : Int) : PySem.W.dataLt (.tuple [.int x, .int y, .int z]) (.tuple [.int x', .int y', .int z']) = decide (x < x' ∨ (x = x' ∧ (y < y' ∨ (y = y' ∧ z < z')))) := by
  rw [PySem.W.dataLt_tuple, PySem.W.dataLt_cons (by simp [PySem.W.alike]), PySem.W.dataLt_cons (by simp [PySem.W.alike]), PySem.W.dataLt_cons (by simp [PySem.W.alike])]
  have e : PyProof.Rows.lexLt PyProof.Rows.itemOrd (PySem.W.keyToksAll []) (PySem.W.keyToksAll []) = false := PyProof.Rows.lex_irrefl _
  rw [e]
  simp only [PyData.eqv, beq_iff_eq, PySem.W.dataLt_int]
  by_cases h1 : x = x' <;> by_cases h2 : y = y' <;> by_cases h3 : z = z' <;> simp [h1, h2, h3]
def ltT (a b : Tri) : Bool := decide (a.a < b.a ∨ (a.a = b.a ∧ (a.b < b.b ∨ (a.b = b.b ∧ a.c < b.c))))
instance : Ordd Tri where
  lt := ltT
  lt_eq := fun a b => dataLt_tri a.a a.b a.c b.a b.b b.c
  ak := fun a b => rfl
  nn := fun a z => by cases z
  so := .inl fun a => ⟨_, _, rfl⟩
variable [Tb] {X : Cx} {ρ : List SV} {pos : Pos} {e a b : Expr}
/-- t[lo:hi], its object known -/
def rSlF : V → Option Int → Option Int → Hp → VK → Prop := fun x lo hi H Q => ∃ (a : Addr) (xs : List V), x = .ref a ∧ FT H a xs ∧
  (HT.sIx xs.length 0 lo = 0 ∧ HT.sIx xs.length xs.length hi = xs.length → Q (.ref a) H) ∧
  (¬ (HT.sIx xs.length 0 lo = 0 ∧ HT.sIx xs.length xs.length hi = xs.length) → ∀ (p : Addr) (ob : Obj), ob.dict = none → H p = none → Q (.ref p) (upd H p (.frz ob (.tup (cutV xs lo hi)))))
theorem sl_tupF : SlR X rSlF := by
  intro pins s σ H x v vl vu lo hi sl Q I rx hs pl pu h
  obtain ⟨a, xs, rfl, hx, q1, q2⟩ := h
  cases rx
  obtain ⟨its, r, ht, hz⟩ := I.tuple hx.sq
  have hlen : its.toArray.size = xs.length := by rw [List.size_toArray]; exact r.length.symm
  refine ⟨"tuple", _, PyProof.Rows.slot_tuple_getitem.lookup, ht.typeIs, ?_⟩
  by_cases hw : HT.sIx xs.length 0 lo = 0 ∧ HT.sIx xs.length xs.length hi = xs.length
  · exact getItem_tuple_whole ht hs pl pu (by rw [hlen]; exact hw) ⟨.ref a, H, I, rfl, q1 hw⟩
  · refine HT.getItem_tuple_cut ht hs pl pu (by rw [hlen]; exact hw) ?_ (by rw [hlen]; exact hz)
    rw [hlen]
    refine ⟨.ref s.heap.objs.size, _, I.laid (t' := s.toks) (o := .frz { cls := .type "tuple", data := .seq ((its.drop (HT.sIx xs.length 0 lo)).take (HT.sIx xs.length xs.length hi - HT.sIx xs.length 0 lo)).toArray } (.tup (cutV xs lo hi))) (fun b ob q => Heap.get?_push_of_some _ q) (Nat.le_refl _) ?_, rfl, q2 hw _ _ rfl (I.hok.fresh (Nat.le_refl _))⟩
    exact ⟨Heap.get?_push_size _ rfl, Nat.le_trans (cutV_length xs lo hi) hz, _, (r.drop (HT.sIx xs.length 0 lo)).take (HT.sIx xs.length xs.length hi - HT.sIx xs.length 0 lo), IsTup.new _ _⟩
/-- t + u, its object known -/
def rCatF : R2 := fun x y H Q => ∃ (a b : Addr) (xs ys : List V), x = .ref a ∧ y = .ref b ∧ FT H a xs ∧ FT H b ys ∧ xs.length + ys.length ≤ sizeLine ∧
  (xs = [] → Q (.ref b) H) ∧ (xs ≠ [] → ys = [] → Q (.ref a) H) ∧ (xs ≠ [] → ys ≠ [] → ∀ (p : Addr) (ob : Obj), ob.dict = none → H p = none → Q (.ref p) (upd H p (.frz ob (.tup (xs ++ ys)))))
theorem op_catF : OpR X (binaryOp .Add) rCatF := by
  intro pins s σ H x y v u Q I rx ry h
  obtain ⟨a, b, xs, ys, rfl, rfl, ha, hb, hz, q0, q1, q2⟩ := h
  cases rx
  cases ry
  obtain ⟨its, r1, p1, _⟩ := I.tuple ha.sq
  obtain ⟨its2, r2, p2, _⟩ := I.tuple hb.sq
  by_cases hx : xs = []
  · subst hx
    cases r1
    exact cat_tup0 p1 p2 ⟨.ref b, H, I, rfl, q0 rfl⟩
  · have n1 : its ≠ [] := fun z => hx ((Vals.nil_iff r1).mp z)
    refine HT.cat_tup p1 p2 n1 (fun z => ⟨.ref a, H, I, rfl, q1 hx ((Vals.nil_iff r2).mp z)⟩) (fun z => ?_) (by rw [← r1.length, ← r2.length]; exact hz)
    have n2 : ys ≠ [] := fun w => z ((Vals.nil_iff r2).mpr w)
    refine ⟨.ref s.heap.objs.size, _, I.laid (t' := s.toks) (o := .frz { cls := .type "tuple", data := .seq (its ++ its2).toArray } (.tup (xs ++ ys))) (fun b ob q => Heap.get?_push_of_some _ q) (Nat.le_refl _) ?_, rfl, q2 hx n2 _ _ rfl (I.hok.fresh (Nat.le_refl _))⟩
    exact ⟨Heap.get?_push_size _ rfl, by rw [List.length_append]; exact hz, _, papp r1 r2, IsTup.new _ _⟩
theorem up_cut {α : Type} [Rep α] {oa : Option (List α)} {lo hi : Option Expr} {ol oh : Option (Option Int)} {p2 : Pos} (ha : Up X ρ a oa) (hl : Pp X ρ lo ol) (hh : Pp X ρ hi oh) : Up X ρ (.Subscript a (.Slice lo hi none p2) pos) (ocut oa ol oh) := .mk fun z hz We B σ W Q S k => by
  obtain ⟨x, hx, hf⟩ := bind_some hz
  obtain ⟨i, hi', hf⟩ := bind_some hf
  obtain ⟨j, hj, hf⟩ := bind_some hf
  cases hf
  obtain ⟨tl, pl, kl⟩ := hl.ex
  obtain ⟨th, ph, kh⟩ := hh.ex
  refine useE (pe_slice sl_tupF pe_run pl ph) (ha.run x hx We B σ W _ S fun p vs W1 l1 hp r1 => ?_)
  refine kl i hi' We B σ W1 _ (S.mono l1) fun W2 l2 => kh j hj We B σ W2 _ (S.mono (l1.trans l2)) fun W3 l3 => ?_
  have l123 := (l1.trans l2).trans l3
  have hp3 := (hp.mono l2.s).mono l3.s
  have r3 := pmono (fun _ _ h => Rep.mono (l2.trans l3).s h) r1
  refine ⟨p, vs, rfl, hp3.mono W3.e, fun hw => ?_, fun hw n ob hob hn => ?_⟩
  · have e1 : cutV vs i j = vs := by
      show (vs.drop _).take _ = vs
      rw [hw.1, hw.2, List.drop_zero, Nat.sub_zero, List.take_length]
    have r4 := pcut r3 i j
    rw [show cutL vs i j = vs from e1] at r4
    exact k p vs W3 l123 hp3 r4
  · have l4 := Wd.Le.new W3 (.frz ob (.tup (cutV vs i j))) hn
    exact k n (cutV vs i j) (W3.new n (.frz ob (.tup (cutV vs i j))) hn) (l123.trans l4) ⟨ob, upd_same, hob⟩ (pmono (fun _ _ h => Rep.mono l4.s h) (pcut r3 i j))
theorem up_cat {α : Type} [Rep α] {oa ob : Option (List α)} (ha : Up X ρ a oa) (hb : Up X ρ b ob) : Up X ρ (.BinOp a .Add b pos) (ocat oa ob) := .mk fun z hz We B σ W Q S k => by
  obtain ⟨x, y, hx, hy, hf⟩ := bind2_some hz
  obtain ⟨hf, hcap⟩ := cap_some hf
  subst hf
  refine useE (pe_op op_catF pe_run pe_run) (ha.run x hx We B σ W _ S fun p vs W1 l1 hp r1 => hb.run y hy We B σ W1 _ (S.mono l1) fun q us W2 l2 hq r2 => ?_)
  have hp2 := hp.mono l2.s
  have r1' := pmono (fun _ _ h => Rep.mono l2.s h) r1
  refine ⟨p, q, vs, us, rfl, rfl, hp2.mono W2.e, hq.mono W2.e, ?_, fun h => ?_, fun _ h => ?_, fun _ _ n ob hob hn => ?_⟩
  · have := cap_line hcap
    rw [List.length_append] at this
    rw [plen r1, plen r2]
    exact this
  · subst h
    cases r1
    exact k q us W2 (l1.trans l2) hq (by simpa using r2)
  · subst h
    cases r2
    exact k p vs W2 (l1.trans l2) hp2 (by simpa using r1')
  · have l3 := Wd.Le.new W2 (.frz ob (.tup (vs ++ us))) hn
    exact k n (vs ++ us) (W2.new n (.frz ob (.tup (vs ++ us))) hn) ((l1.trans l2).trans l3) ⟨ob, upd_same, hob⟩ (pmono (fun _ _ h => Rep.mono l3.s h) (papp r1' r2))
def o3 (o : Option (List Int)) : Option Tri := o.bind fun l => match l with
  | [a, b, c] => some ⟨a, b, c⟩
  | _ => none
theorem ep_up3 {o : Option (List Int)} (h : Up X ρ e o) : Ep X ρ e (o3 o) := .mk fun z hz We B σ W Q S k => by
  obtain ⟨l, hl, hf⟩ := bind_some hz
  match l, hf with
  | [x, y, w], hf =>
    cases hf
    refine h.run _ hl We B σ W Q S fun p vs W1 l1 hp r1 => k _ W1 l1 ⟨p, rfl, ?_⟩
    rw [ints_eq r1] at hp
    exact hp
/-- t.index(n), t's object known -/
def tTix (to te : TE) : TE := fun σ H Q => to σ H fun x H1 => ∃ (p : Addr) (ob : Obj) (ns : List Int), x = .ref p ∧ H1 p = some (.frz ob (.tup (ns.map V.int))) ∧ ob.dict = none ∧
  te σ H1 fun y H2 => ∃ n : Int, y = .int n ∧ H2 p = some (.frz ob (.tup (ns.map V.int))) ∧ n ∈ ns ∧ Q (.int (ns.idxOf n : Nat)) H2
theorem pe_tindex {to te : TE} {o : Expr} {apos cpos : Pos} (ho : PE X o to) (he : PE X e te) (hbase : attributeBase o "index" X.env (eval o X.env) = eval o X.env)
    (hfew : ((backTo cpos (starEach [e] X.env)).all (fun x => !x.1) && (backToKw cpos (keywordEach [] X.env)).all (fun x => x.1.isSome)
      && decide ([e].length + ([] : List Keyword).length + (if ([] : List Keyword).isEmpty then 0 else 1) < 30)) = true) (hline : (apos.endLine == cpos.line) = true) (hst : NS X e) :
    PE X (.Call (.Attribute o "index" apos) [e] [] cpos) (tTix to te) := by
  refine ⟨fun pins s σ H Q I h => ?_⟩
  refine wpAny_Call_method_late hbase hfew hline rfl (thn (ho.run pins s σ H _ I h) fun v s1 ⟨x, H1, I1, r1, p, ob, ns, ex, hp, hd, q1⟩ => ?_)
  subst ex
  obtain rfl : v = Value.ref p := r1
  obtain ⟨h1, z, its, r, pl⟩ := (show ObjOk X.prog X.w H1 s1.heap p (.frz ob (.tup (ns.map V.int))) from I1.hok p _ hp)
  refine ⟨"tuple", "tuple.index", PySem.F.plainAttrs_tuple, PySem.F.slot_tuple_index, PySem.F.type_tuple_index, pl.typeIs, fun a e => (by cases e; exact ⟨ob, h1, hd⟩), ?_⟩
  rw [hst]
  refine Calls.callWith_builtin rfl (Calls.evalArgs_plain (Calls.spliced_cons (thn (he.run pins s1 σ H1 _ I1 q1) fun u s2 ⟨y, H2, I2, r2, n, ey, hp2, hm, q2⟩ => Calls.spliced_nil ?_)))
  subst ey
  obtain ⟨t, rfl⟩ := r2
  obtain ⟨_, z2, its2, rv2, pl2⟩ := (show ObjOk X.prog X.w H2 s2.heap p (.frz ob (.tup (ns.map V.int))) from I2.hok p _ hp2)
  exact PySem.SeqAt.tuple_index_ints pl2 rv2.ints hm ⟨.int (ns.idxOf n : Nat), H2, I2.tok _, ⟨_, rfl⟩, q2⟩
theorem ep_tindex {oa : Option (List Int)} {ob : Option Int} {p1 : Pos} (ha : Up X ρ a oa) (hb : Ep X ρ b ob)
    (hbase : attributeBase a "index" X.env (eval a X.env) = eval a X.env := by rfl)
    (hfew : ((backTo pos (starEach [b] X.env)).all (fun x => !x.1) && (backToKw pos (keywordEach [] X.env)).all (fun x => x.1.isSome)
      && decide ([b].length + ([] : List Keyword).length + (if ([] : List Keyword).isEmpty then 0 else 1) < 30)) = true := by rfl)
    (hline : (p1.endLine == pos.line) = true := by rfl) (hst : NS X b := by intro _; rfl) :
    Ep X ρ (.Call (.Attribute a "index" p1) [b] [] pos) (oindx oa ob) := .mk fun z hz We B σ W Q S k => by
  obtain ⟨l, x, hl, hx, hz⟩ := bind2_some hz
  split at hz
  · rename_i hm
    cases hz
    refine useE (pe_tindex pe_run pe_run hbase hfew hline hst) (ha.run l hl We B σ W _ S fun p vs W1 l1 hp r1 => ?_)
    obtain ⟨ob', e1, e2⟩ := hp
    rw [ints_eq r1] at e1
    refine ⟨p, ob', l, rfl, W1.e _ _ e1, e2, hb.run x hx We B σ W1 _ (S.mono l1) fun u W2 l2 r2 => ?_⟩
    cases r2
    exact ⟨x, rfl, W2.e _ _ (l2.s _ _ e1), hm, k _ W2 (l1.trans l2) rfl⟩
  · cases hz
end T
/-! typed layer: dicts by whole numbers or pairs of them -/
namespace T
open PySem PySem.Spec PyProof.Rows L2
open Evl (Ex)
open Rep (rel)
section
variable {κ β : Type} [DecidableEq κ]
def dget (l : List (κ × β)) (k : κ) : Option β := (l.find? fun kv => decide (kv.1 = k)).map (·.2)
def dput (l : List (κ × β)) (k : κ) (v : β) : List (κ × β) := if (l.any fun kv => decide (kv.1 = k)) = true then l.map (fun kv => if kv.1 = k then (kv.1, v) else kv) else l ++ [(k, v)]
theorem dget_nil {k : κ} : dget ([] : List (κ × β)) k = none := rfl
theorem dget_pos {p : κ × β} {r : List (κ × β)} {k : κ} (e : p.1 = k) : dget (p :: r) k = some p.2 := by simp [dget, List.find?_cons, e]
theorem dget_neg {p : κ × β} {r : List (κ × β)} {k : κ} (e : ¬ p.1 = k) : dget (p :: r) k = dget r k := by simp [dget, List.find?_cons, e]
end
section
variable {κ κ' : Type} [DecidableEq κ] [DecidableEq κ']
theorem valV_map {f : κ → κ'} (hf : ∀ a b, f a = f b → a = b) (k : κ) : ∀ l : List (κ × V), valV (l.map fun kv => (f kv.1, kv.2)) (f k) = dget l k
  | [] => rfl
  | p :: r => by
    rw [List.map_cons]
    by_cases e : p.1 = k
    · rw [dget_pos e, valV_pos (by show f p.1 = f k; rw [e])]
    · rw [dget_neg e, valV_neg (by exact fun z => e (hf _ _ z)), valV_map hf k r]
theorem any_map {f : κ → κ'} (hf : ∀ a b, f a = f b → a = b) (k : κ) : ∀ l : List (κ × V), ((l.map fun kv => (f kv.1, kv.2)).any fun kv => decide (kv.1 = f k)) = l.any fun kv => decide (kv.1 = k)
  | [] => rfl
  | p :: r => by
    rw [List.map_cons, List.any_cons, List.any_cons, any_map hf k r]
    congr 1
    by_cases e : p.1 = k
    · simp [e]
    · have e2 : ¬ f p.1 = f k := fun z => e (hf _ _ z)
      simp [e, e2]
theorem putK_map {f : κ → κ'} (hf : ∀ a b, f a = f b → a = b) (k : κ) (v : V) (l : List (κ × V)) : putK (l.map fun kv => (f kv.1, kv.2)) (f k) v = (dput l k v).map fun kv => (f kv.1, kv.2) := by
  unfold putK dput
  rw [any_map hf]
  split
  · rw [List.map_map, List.map_map]
    refine List.map_congr_left fun p _ => ?_
    show (if f p.1 = f k then (f p.1, v) else (f p.1, p.2)) = (f (if p.1 = k then (p.1, v) else p).1, (if p.1 = k then (p.1, v) else p).2)
    by_cases e : p.1 = k
    · rw [if_pos e, if_pos (by rw [e])]
    · rw [if_neg e, if_neg (fun z => e (hf _ _ z))]
  · rw [List.map_append]
    rfl
end
def kI (i : Int) : Key := .inl i
def kP (p : Int × Int) : List Key := [.inl p.1, .inl p.2]
theorem kI_inj (a b : Int) (h : kI a = kI b) : a = b := Sum.inl.inj h
theorem kP_inj (a b : Int × Int) (h : kP a = kP b) : a = b := by
  unfold kP at h
  cases a
  cases b
  simp at h
  simp [h]
theorem peR {X : Cx} {e : Expr} : PE X e (RunE X e) := ⟨fun pins s _ _ _ I h => h pins s I⟩
/-- what a dict's keys may be -/
class DKy (κ : Type) [DecidableEq κ] [Rep κ] where
  ob : List (κ × V) → HO
  pl : ∀ l, isPl (ob l) = true
  mu : ∀ l, Mut (some (ob l))
  get : ∀ {K : PySem.W.Frag} {S H : Hp} {a : Addr} {v : V} {k : κ} {l : List (κ × V)}, Rd H a (ob l) → rel K S v k → Ex S H → DGet H a v (dget l k)
  put : ∀ {K : PySem.W.Frag} {S H : Hp} {a : Addr} {v x : V} {k : κ} {l : List (κ × V)}, H a = some (ob l) → rel K S v k → Ex S H → l.length < sizeLine → DPut H a v x (upd H a (ob (dput l k x)))
  new : ∀ {X : Cx} {pos : Pos}, PE X (.Dict [] [] pos) (fun _ H Q => ∀ p, H p = none → Q (.ref p) (upd H p (ob [])))
  len : ∀ {X : Cx}, CallR X (.builtin "len") (fun xs H Q => ∃ (p : Addr) (l : List (κ × V)), xs = [.ref p] ∧ Rd H p (ob l) ∧ Q (.int ((l.length : Nat) : Int)) H)
  it : Addr → Obj → List (κ × V) → It
  keys : ∀ {X : Cx} {tg e : Expr}, PI X tg e (fun σ H R => RunE X e σ H fun x H1 => ∃ (d : Addr) (o : Obj) (l : List (κ × V)), x = .ref d ∧ H1 d = some (.frz o (ob l)) ∧ R (it d o l) H1)
  walk : ∀ {d : Addr} {o : Obj} {l : List (κ × V)}, Walk (it d o l) l.length (fun H => H d = some (.frz o (ob l))) (fun i H x H' => H' = H ∧ ∃ k v, l[i]? = some (k, v) ∧
    ((∀ (K : PySem.W.Frag) (S : Hp), rel K S x k) ∨ ∃ q xs, H q = some (.tup xs) ∧ ∀ (K : PySem.W.Frag) (S : Hp), S q = some (.tup xs) → rel K S x k))
theorem call_len_rdT {X : Cx} : CallR X (.builtin "len") (fun xs H Q => ∃ (p : Addr) (kvs : List (List Key × V)), xs = [V.ref p] ∧ Rd H p (.dT kvs) ∧ Q (.int ((kvs.length : Nat) : Int)) H) := by
  intro pins s σ H xs us Q I r h
  obtain ⟨p, kvs, rfl, hp, q⟩ := h
  obtain ⟨u, rfl, rx⟩ := vals1 r
  obtain rfl : u = .ref p := rx
  obtain ⟨z, hd, ys, rl, dd⟩ := dt_rd I.hok hp
  have hl : kvs.length = ys.length := Paired.length rl
  exact call_len_dictH hd dd (by rw [← hl]; rw [sizeLine_eq] at z; omega) ⟨.int ((kvs.length : Nat) : Int), H, I.tok _, ⟨_, by rw [hl]⟩, q⟩
instance : DKy (Int × Int) where
  ob := fun l => .dT (l.map fun kv => (kP kv.1, kv.2))
  pl := fun _ => rfl
  mu := fun _ => trivial
  get := fun {K S H a v k l} h r e => by
    obtain ⟨p, x, y, e1, e2, rx, ry⟩ := r
    cases rx
    cases ry
    have := valV_map (f := kP) kP_inj k l
    rw [← this, e1]
    exact .inr ⟨_, kP k, p, h, rfl, e _ _ e2, rfl⟩
  put := fun {K S H a v x k l} h r e hl => by
    obtain ⟨p, x1, y1, e1, e2, rx, ry⟩ := r
    cases rx
    cases ry
    rw [← putK_map (f := kP) kP_inj, e1]
    exact .t (k := kP k) h (e _ _ e2) (by rw [List.length_map]; exact hl)
  new := pe_dnewT
  len := fun {X} pins s σ H xs us Q I r h => by
    obtain ⟨p, l, e, hp, q⟩ := h
    exact call_len_rdT pins s σ H xs us Q I r ⟨p, _, e, hp, by rw [List.length_map]; exact q⟩
  it := fun d o l => Itkt d o (l.map fun kv => (kP kv.1, kv.2))
  keys := fun {X tg e} => ⟨fun pins s σ H R I hw => (pi_keys peR).run pins s σ H R I (fun pins s I => thn (hw pins s I) fun v s1 ⟨x, H1, I1, r, d, o, l, e1, e2, q⟩ => ⟨x, H1, I1, r, d, o, e1, .inr ⟨_, e2, q⟩⟩)⟩
  walk := fun {d o l} => by
    have w := walk_keysT (d := d) (o := o) (kvs := l.map fun kv => (kP kv.1, kv.2))
    rw [List.length_map] at w
    refine w.mono (fun _ h => h) fun i H x H' hi _ ⟨e, k, v, q, hk, hx, hq⟩ => ⟨e, ?_⟩
    rw [List.getElem?_map] at hk
    obtain ⟨kv, h1, h2⟩ := Option.map_eq_some_iff.mp hk
    cases h2
    exact ⟨kv.1, kv.2, h1, .inr ⟨q, _, hq, fun K S hS => ⟨q, .int kv.1.1, .int kv.1.2, hx, hS, rfl, rfl⟩⟩⟩
theorem call_len_rdK {X : Cx} : CallR X (.builtin "len") (fun xs H Q => ∃ (p : Addr) (kvs : List (Key × V)), xs = [V.ref p] ∧ Rd H p (.dK kvs) ∧ Q (.int ((kvs.length : Nat) : Int)) H) := by
  intro pins s σ H xs us Q I r h
  obtain ⟨p, kvs, rfl, hp, q⟩ := h
  obtain ⟨u, rfl, rx⟩ := vals1 r
  obtain rfl : u = .ref p := rx
  obtain ⟨z, hd, vs, rl, dd⟩ := dk_rd I.hok hp
  exact call_len_dict hd dd (by rw [← rl.length]; rw [sizeLine_eq] at z; omega) ⟨.int ((kvs.length : Nat) : Int), H, I.tok _, ⟨_, by rw [rl.length]⟩, q⟩
instance : DKy Int where
  ob := fun l => .dK (l.map fun kv => (kI kv.1, kv.2))
  pl := fun _ => rfl
  mu := fun _ => trivial
  get := fun {K S H a v k l} h r e => by
    cases r
    have := valV_map (f := kI) kI_inj k l
    rw [← this]
    exact .inl ⟨_, kI k, h, rfl, rfl⟩
  put := fun {K S H a v x k l} h r e hl => by
    cases r
    rw [← putK_map (f := kI) kI_inj]
    exact .k (k := kI k) h (by rw [List.length_map]; exact hl)
  new := pe_dnewK
  len := fun {X} pins s σ H xs us Q I r h => by
    obtain ⟨p, l, e, hp, q⟩ := h
    exact call_len_rdK pins s σ H xs us Q I r ⟨p, _, e, hp, by rw [List.length_map]; exact q⟩
  it := fun d o l => Itk d o (l.map fun kv => (kI kv.1, kv.2))
  keys := fun {X tg e} => ⟨fun pins s σ H R I hw => (pi_keys peR).run pins s σ H R I (fun pins s I => thn (hw pins s I) fun v s1 ⟨x, H1, I1, r, d, o, l, e1, e2, q⟩ => ⟨x, H1, I1, r, d, o, e1, .inl ⟨_, e2, q⟩⟩)⟩
  walk := fun {d o l} => by
    have w := walk_keys (d := d) (o := o) (kvs := l.map fun kv => (kI kv.1, kv.2))
    rw [List.length_map] at w
    refine w.mono (fun _ h => h) fun i H x H' hi _ ⟨e, k, v, hk, hx⟩ => ⟨e, ?_⟩
    rw [List.getElem?_map] at hk
    obtain ⟨kv, h1, h2⟩ := Option.map_eq_some_iff.mp hk
    cases h2
    exact ⟨kv.1, kv.2, h1, .inl fun K S => hx⟩
/-! dicts as values -/
/-- a dict that is still changed -/
structure MA (l0 : Option Addr) (κ β : Type) where
  kvs : List (κ × β)
abbrev MD (κ β : Type) := MA none κ β
abbrev MD.mk {κ β : Type} (kvs : List (κ × β)) : MD κ β := MA.mk kvs
/-- a dict that stays as it is -/
structure Dc (κ β : Type) where
  kvs : List (κ × β)
section
variable {κ β : Type} [DecidableEq κ] [Rep κ] [DKy κ] [Rep β]
/-- entries by entries -/
def DP (K : PySem.W.Frag) (H : Hp) : List (κ × V) → List (κ × β) → Prop := Paired fun w x => w.1 = x.1 ∧ rel K H w.2 x.2
theorem DP.mono {K : PySem.W.Frag} {H H' : Hp} {ws : List (κ × V)} {l : List (κ × β)} (h : DP K H ws l) (e : Ex H H') : DP K H' ws l := pmono (fun _ _ ⟨a, b⟩ => ⟨a, Rep.mono e b⟩) h
theorem DP.get {K : PySem.W.Frag} {H : Hp} {k : κ} : ∀ {ws : List (κ × V)} {l : List (κ × β)}, DP K H ws l → (∀ x, dget l k = some x → ∃ v, dget ws k = some v ∧ rel K H v x) ∧ (dget ws k).isSome = (dget l k).isSome
  | _, _, .nil => ⟨fun x h => (by cases h), rfl⟩
  | _, _, .cons (a := w) (b := y) ⟨e, r⟩ t => by
    by_cases q : y.1 = k
    · rw [dget_pos q, dget_pos (e.trans q)]
      exact ⟨fun x h => (by cases h; exact ⟨_, rfl, r⟩), rfl⟩
    · rw [dget_neg q, dget_neg (fun z => q (e.symm.trans z))]
      exact DP.get t
theorem DP.any {K : PySem.W.Frag} {H : Hp} {k : κ} : ∀ {ws : List (κ × V)} {l : List (κ × β)}, DP K H ws l → (ws.any fun kv => decide (kv.1 = k)) = l.any fun kv => decide (kv.1 = k)
  | _, _, .nil => rfl
  | _, _, .cons (a := w) (b := y) ⟨e, r⟩ t => by
    rw [List.any_cons, List.any_cons, e, DP.any t]
theorem DP.map {K : PySem.W.Frag} {H : Hp} {k : κ} {v : V} {x : β} (r : rel K H v x) : ∀ {ws : List (κ × V)} {l : List (κ × β)}, DP K H ws l → DP K H (ws.map (fun kv => if kv.1 = k then (kv.1, v) else kv)) (l.map (fun kv => if kv.1 = k then (kv.1, x) else kv))
  | _, _, .nil => .nil
  | _, _, .cons (a := w) (b := y) ⟨e, r1⟩ t => by
    refine .cons ?_ (DP.map r t)
    dsimp only
    by_cases q : y.1 = k
    · rw [if_pos q, if_pos (e.trans q)]
      exact ⟨e, r⟩
    · rw [if_neg q, if_neg (fun z => q (e.symm.trans z))]
      exact ⟨e, r1⟩
theorem DP.put {K : PySem.W.Frag} {H : Hp} {k : κ} {v : V} {x : β} (r : rel K H v x) {ws : List (κ × V)} {l : List (κ × β)} (h : DP K H ws l) : DP K H (dput ws k v) (dput l k x) := by
  unfold dput
  rw [h.any]
  split
  · exact DP.map r h
  · letI : Tb := ⟨[]⟩
    exact papp h (.cons ⟨rfl, r⟩ .nil)
instance {l0 : Option Addr} : MRep (MA l0 κ β) := ⟨fun K H l o m => (∀ a, l0 = some a → l = a) ∧ ∃ ws, o = DKy.ob ws ∧ DP K H ws m.kvs, fun e ⟨h0, ws, h1, h2⟩ => ⟨h0, ws, h1, h2.mono e⟩, fun ⟨_, ws, h1, _⟩ => by rw [h1]; exact DKy.pl ws⟩
instance : Rep (Dc κ β) := ⟨fun K H v m => ∃ p ob ws, v = .ref p ∧ H p = some (.frz ob (DKy.ob ws)) ∧ DP K H ws m.kvs, fun e ⟨p, ob, ws, h1, h2, h3⟩ => ⟨p, ob, ws, h1, e _ _ h2, h3.mono e⟩⟩
end
variable [Tb]
/-- a tuple is settled late -/
theorem Wd.setT (W : Wd) {q : Addr} {xs : List V} (h : W.h q = some (.tup xs)) : ∃ W' : Wd, W.Le W' ∧ W'.h = W.h ∧ W'.s q = some (.tup xs) := by
  cases z : W.s q with
  | some o =>
    have := W.e q o z
    rw [h] at this
    cases this
    exact ⟨W, .refl W, rfl, z⟩
  | none =>
    refine ⟨W.settle q (.tup xs) h rfl, ⟨Ex.new z, Eh.refl _, fun p o h1 h2 h3 => ?_⟩, rfl, upd_same⟩
    show upd W.s q _ p = none
    rw [upd_ne (fun e => ?_)]
    · exact h3
    · subst e
      rw [h] at h1
      cases h1
      cases h2
section
variable {X : Cx} {xx : Nat → Hp → Prop} {ρ : List SV} {rest : List Stmt} {e a : Expr} {pos : Pos}
variable {β γ κ δ : Type} [Rep β] [DecidableEq κ] [Rep κ] [DKy κ] [Rep δ]
/-! reading -/
def odget (d : Option (Dc κ δ)) (k : Option κ) : Option δ := bind2 d k fun d k => dget d.kvs k
theorem ep_dget {od : Option (Dc κ δ)} {ok : Option κ} {i : Expr} (hu : X.A.units + 1 < cLine) (ha : Ep X ρ a od) (hi : Ep X ρ i ok) (hs : NoSl i) : Ep X ρ (.Subscript a i pos) (odget od ok) := .mk fun z hz We B σ W Q S k => by
  obtain ⟨d, x, hd, hx, hz⟩ := bind2_some hz
  refine useE (pe_dget hu pe_run pe_run hs) (ha.run d hd We B σ W _ S fun v W1 l1 ⟨p, ob, ws, e1, e2, r⟩ => hi.run x hx We B σ W1 _ (S.mono l1) fun y W2 l2 r2 => ?_)
  have r' := r.mono l2.s
  obtain ⟨w, hw, rw_⟩ := r'.get.1 z hz
  have g := DKy.get (l := ws) (.inr ⟨ob, W2.e _ _ (l2.s _ _ e2)⟩) r2 W2.e
  rw [hw] at g
  exact ⟨p, w, e1, g, k _ W2 (l1.trans l2) rw_⟩
def odin (k : Option κ) (d : Option (Dc κ δ)) : Option Bool := bind2 k d fun k d => some (dget d.kvs k).isSome
def odnin (k : Option κ) (d : Option (Dc κ δ)) : Option Bool := bind2 k d fun k d => some (!(dget d.kvs k).isSome)
def olenD (d : Option (Dc κ δ)) : Option Int := d.bind fun d => some (d.kvs.length : Int)
theorem ep_lenD {o : Option (Dc κ δ)} {p1 : Pos} (hg : Gl X "len") (hm : X.mg "len" = none) (ha : Ep X ρ a o) (hst : NS X a := by intro _; rfl) : Ep X ρ (.Call (.Name "len" p1) [a] [] pos) (olenD o) := .mk fun z hz We B σ W Q S k => by
  obtain ⟨x, hx, hf⟩ := bind_some hz
  cases hf
  refine useE (pe_callB (DKy.len (κ := κ)) hg hm PySem.boot_len (pa_cons pe_run pa_nil (hst _)) (he := hst _)) (ha.run x hx We B σ W _ S fun v W1 l1 ⟨p, ob, ws, e1, e2, r⟩ => ?_)
  exact ⟨p, ws, by rw [e1], .inr ⟨ob, W1.e _ _ e2⟩, by rw [plen r]; exact k _ W1 l1 rfl⟩
theorem cq_dinO {b : Expr} {ok : Option κ} {od : Option (Dc κ δ)} (hu : X.A.units + 1 < cLine) (ha : Ep X ρ a ok) (hb : Ep X ρ b od) (hm : behindInMarks .In b = false := by rfl) : Cq X ρ .In a b (odin ok od) := by
  have key : ∀ z, odin ok od = some z → ∀ (We : Wd) (B : Hp) (σ : L2.St) (W : Wd) (Q : VK), SR X.K We B ρ σ W → (∀ v W', W.Le W' → rel X.K W'.s v z → Q v W'.h) → tDIn (RunE X a) (RunE X b) σ W.h Q := fun z hz We B σ W Q S k => by
    obtain ⟨x, d, hx, hd, hf⟩ := bind2_some hz
    cases hf
    refine ha.run x hx We B σ W _ S fun y W1 l1 r1 => hb.run d hd We B σ W1 _ (S.mono l1) fun v W2 l2 ⟨p, ob, ws, e1, e2, r⟩ => ?_
    have g := DKy.get (l := ws) (.inr ⟨ob, W2.e _ _ e2⟩) (Rep.mono l2.s r1) W2.e
    exact ⟨p, _, e1, g, by rw [r.get.2]; exact k _ W2 (l1.trans l2) rfl⟩
  refine ⟨fun pos => .mk fun z hz We B σ W Q S k => useE (pe_cmp (pc_din hu pe_run pe_run) hm) (key z hz We B σ W Q S k), fun pos => .mk fun z hz We B σ W Q S k => useT (pt_cmp (pc_din hu pe_run pe_run) hm) (key z hz We B σ W _ S fun v W1 l1 r1 => ⟨z, r1, k W1 l1⟩)⟩
theorem cq_dninO {b : Expr} {ok : Option κ} {od : Option (Dc κ δ)} (hu : X.A.units + 1 < cLine) (ha : Ep X ρ a ok) (hb : Ep X ρ b od) (hm : behindInMarks .NotIn b = false := by rfl) : Cq X ρ .NotIn a b (odnin ok od) := by
  have key : ∀ z, odnin ok od = some z → ∀ (We : Wd) (B : Hp) (σ : L2.St) (W : Wd) (Q : VK), SR X.K We B ρ σ W → (∀ v W', W.Le W' → rel X.K W'.s v z → Q v W'.h) → tDNotIn (RunE X a) (RunE X b) σ W.h Q := fun z hz We B σ W Q S k => by
    obtain ⟨x, d, hx, hd, hf⟩ := bind2_some hz
    cases hf
    refine ha.run x hx We B σ W _ S fun y W1 l1 r1 => hb.run d hd We B σ W1 _ (S.mono l1) fun v W2 l2 ⟨p, ob, ws, e1, e2, r⟩ => ?_
    have g := DKy.get (l := ws) (.inr ⟨ob, W2.e _ _ e2⟩) (Rep.mono l2.s r1) W2.e
    exact ⟨p, _, e1, g, by rw [r.get.2]; exact k _ W2 (l1.trans l2) rfl⟩
  refine ⟨fun pos => .mk fun z hz We B σ W Q S k => useE (pe_cmp (pc_dnotin hu pe_run pe_run) hm) (key z hz We B σ W Q S k), fun pos => .mk fun z hz We B σ W Q S k => useT (pt_cmp (pc_dnotin hu pe_run pe_run) hm) (key z hz We B σ W _ S fun v W1 l1 r1 => ⟨z, r1, k W1 l1⟩)⟩
/-! changing -/
/-- d[k] = v -/
def odput {l0 : Option Addr} (m : MA l0 κ δ) (k : Option κ) (v : Option δ) : Option (List (κ × δ)) := bind2 k v fun k v => if capOk m.kvs.length then some (dput m.kvs k v) else none
theorem bs_dput {l0 : Option Addr} {m : MA l0 κ δ} {ok : Option κ} {ov : Option δ} {i value : Expr} {f : List (κ × δ) → Option (Out β γ)} {fr : Bool} {post : γ → List SV} {x : Str} {p0 p1 : Pos} (j : Nat) (hu : X.A.units + 1 < cLine) (hk : Ep X ρ i ok) (hv : Ep X ρ value ov)
    (hr : ∀ a, Bs X xx (ρ.set j (.mut (MA.mk (l0 := l0) a))) rest fr (f a) post) (hρ : ρ[j]? = some (.mut m) := by rfl)
    (hN : X.N[j]? = some x := by rfl) (hvi : Vis X.env.scope x := by first | exact Or.inl rfl | exact Or.inr (Or.inl rfl) | exact Or.inr (Or.inr rfl)) (hd : (x == ("__debug__" : Str)) = false := by decide)
    (hcd : (x == ("__classdict__" : Str)) = false := by decide) (hs : swapsWith value (some (.Subscript (.Name x p0) i p1)) pos.line X.env = pure false := by rfl) :
    Bs X xx ρ (.Assign [.Subscript (.Name x p0) i p1] value pos :: rest) fr ((odput m ok ov).bind f) post := .mk fun out ho We B σ W D S k => by
  obtain ⟨y, hy, hf'⟩ := bind_some ho
  obtain ⟨kk, vv, hkk, hvv, hy⟩ := bind2_some hy
  split at hy
  · rename_i hc
    cases hy
    obtain ⟨l, ob, e1, n1, n2, hh, al, ws, rfl, r⟩ := S.at_ j _ hρ
    refine useSs (pss_cons (ps_dput hu (pe_var hN hvi hd hcd) pe_run pe_run hs) pss_run) ?_
    refine hv.run vv hvv We B σ W _ S fun v W1 l1 r1 => ⟨.ref l, e1, hk.run kk hkk We B σ W1 _ (S.mono l1) fun q W2 l2 r2 => ?_⟩
    have l12 := l1.trans l2
    have r' := r.mono l12.s
    have hh2 := l12.h _ _ hh (tb_of_pl (DKy.pl ws))
    refine ⟨l, _, rfl, DKy.put hh2 r2 W2.e (by rw [plen r]; exact cap_lt hc), ?_⟩
    obtain ⟨W3, e3, S3⟩ := (S.mono l12).mutate (δ := MA l0 κ δ) (m' := MA.mk (dput m.kvs kk vv)) (ob := DKy.ob (dput ws kk v)) hρ e1 (show MRep.orel X.K W2.s _ _ (MA.mk (l0 := l0) (dput m.kvs kk vv)) from ⟨al, _, rfl, r'.put (Rep.mono l2.s r1)⟩)
    have z := (hr _).run out hf' We B _ W3 D S3 k
    rw [e3] at z
    exact z
  · cases hy
/-- a dict that is locked for good, not settled yet -/
structure FD (κ β : Type) where
  kvs : List (κ × β)
instance : MRep (FD κ δ) := ⟨fun K H _ o m => ∃ od ws, o = .frz od (DKy.ob ws) ∧ DP K H ws m.kvs, fun e ⟨od, ws, h1, h2⟩ => ⟨od, ws, h1, h2.mono e⟩, fun ⟨od, ws, h1, _⟩ => by rw [h1]; rfl⟩
theorem runSs_lock {st : List Stmt} {D : Ends} {σ : L2.St} {H : Hp} {d : Addr} {u : HO} (h : H d = some u) (mu : Mut (some u)) (k : ∀ od, RunSs X st D σ (upd H d (.frz od u))) : RunSs X st D σ H := fun pins s I => by
  obtain ⟨od, I1⟩ := I.lock h mu
  exact k od pins s I1
/-- what was changed till now is settled -/
theorem SR.freezeG {K : PySem.W.Frag} {We W : Wd} {B : Hp} {σ : L2.St} {α α' : Type} [MRep α] [Rep α'] {i : Nat} {m : α} {a : α'} (S : SR K We B ρ σ W) (h : ρ[i]? = some (.mut m))
    (f : ∀ (H : Hp) (l : Addr) (ob : HO), H l = some ob → MRep.orel K H l ob m → rel K H (.ref l) a) : ∃ W', W'.h = W.h ∧ SR K We B (ρ.set i (.imm a)) σ W' := by
  obtain ⟨l, ob, e1, n1, n2, hh, r⟩ := S.at_ i _ h
  have ex : Ex W.s (upd W.s l ob) := Ex.new n2
  have r' : MRep.orel K (upd W.s l ob) l ob m := MRep.mono ex r
  refine ⟨W.settle l ob hh (tb_of_pl (MRep.nt r)), rfl, ?_⟩
  · have hi : i < ρ.length := (List.getElem?_eq_some_iff.mp h).1
    refine ⟨⟨S.le.s.trans ex, S.le.h, fun p o h1 hno h2 => ?_⟩, S.b.trans ex, by rw [List.length_set]; exact S.len, fun j y hj => ?_, fun j k y z l' hjk hj hk mj mk ej ek => ?_⟩
    · show upd W.s l ob p = none
      rw [upd_ne (fun z => by subst z; exact fre_no n1 h1 (tb_of_pl hno))]
      exact S.le.f p o h1 hno h2
    · rcases get_set_cases hj with ⟨rfl, rfl, hl⟩ | ⟨hne, h2⟩
      · exact ⟨.ref l, e1, f _ l ob upd_same r'⟩
      · have s0 := S.at_ j y h2
        match y, s0 with
        | .any, _ => trivial
        | @SV.imm _ ii a, ⟨v, e, rr⟩ => exact ⟨v, e, ii.mono ex rr⟩
        | @SV.mut _ ii a, ⟨l', ob', e, n, s, hh', rr⟩ =>
          refine ⟨l', ob', e, n, ?_, hh', ii.mono ex rr⟩
          show upd W.s l ob l' = none
          rw [upd_ne (fun z => ?_)]
          · exact s
          · subst z
            exact S.sep j i _ _ l' hne h2 h trivial trivial e e1
    · rcases get_set_cases hj with ⟨rfl, rfl, hl⟩ | ⟨hne, h2⟩
      · exact mj.elim
      · rcases get_set_cases hk with ⟨rfl, rfl, hl⟩ | ⟨hne', h3⟩
        · exact mk.elim
        · exact S.sep j k y z l' hjk h2 h3 mj mk ej ek
theorem bs_freezeD {st : List Stmt} {d : MD κ δ} {m : Option (Out β γ)} {fr : Bool} {post : γ → List SV} (i : Nat) (h : Bs X xx (ρ.set i (.imm (Dc.mk d.kvs))) st fr m post) (hi : ρ[i]? = some (.mut d) := by rfl) : Bs X xx ρ st fr m post := .mk fun out ho We B σ W D S k => by
  obtain ⟨l, ob, e1, n1, n2, hh, al, ws, rfl, r⟩ := S.at_ i _ hi
  refine runSs_lock hh (DKy.mu ws) fun od => ?_
  obtain ⟨W2, e2, S2⟩ := S.mutate (δ := FD κ δ) (m' := FD.mk d.kvs) (ob := .frz od (DKy.ob ws)) hi e1 (show MRep.orel X.K W.s _ _ (FD.mk d.kvs) from ⟨od, ws, rfl, r⟩)
  have hl : i < ρ.length := (List.getElem?_eq_some_iff.mp hi).1
  obtain ⟨W3, e3, S3⟩ := S2.freezeG (i := i) (m := FD.mk d.kvs) (a := Dc.mk d.kvs) (by rw [List.getElem?_set_self hl]) fun H l ob q h => by
    obtain ⟨od, ws, h1, h2⟩ := (show ∃ od ws, ob = HO.frz od (DKy.ob ws) ∧ DP X.K H ws d.kvs from h)
    exact ⟨l, od, ws, rfl, by rw [q, h1], h2⟩
  rw [List.set_set] at S3
  have z := h.run out ho We B σ W3 D S3 k
  rw [e3, e2] at z
  exact z
theorem SR.newMut {K : PySem.W.Frag} {We W W' : Wd} {B : Hp} {σ : L2.St} {α : Type} [MRep α] {i : Nat} {p : Addr} {ob : HO} {m : α} (S : SR K We B ρ σ W) (le : W.Le W') (hn : fre W.h p) (hs : W'.s p = none) (hh : W'.h p = some ob)
    (r : MRep.orel K W'.s p ob m) : SR K We B (ρ.set i (.mut m)) (σ.set i (some (.ref p))) W' := by
  have S2 := S.mono le
  refine ⟨S2.le, S2.b, by rw [List.length_set, List.length_set]; exact S.len, fun j y h => ?_, fun j k y z l hjk hj hk mj mk ej ek => ?_⟩
  · rcases get_set_cases h with ⟨rfl, rfl, hl⟩ | ⟨hne, h2⟩
    · rw [List.getElem?_set_self (by rw [S.len]; exact hl)]
      exact ⟨p, ob, rfl, S.le.h.back hn, hs, hh, r⟩
    · rw [List.getElem?_set_ne (fun z => hne z.symm)]
      exact S2.at_ j y h2
  · have fresh : ∀ {j : Nat} {y : SV}, y.isMut → ρ[j]? = some y → σ[j]? = some (some (.ref p)) → False := fun {j y} my hy ey => by
      have s0 := S.at_ j y hy
      match y, my, s0 with
      | @SV.mut _ ii a, _, ⟨l', ob, e, n, s, hh', rr⟩ =>
        rw [ey] at e
        cases e
        exact fre_no hn hh' (tb_of_pl (ii.nt rr))
    rcases get_set_cases hj with ⟨rfl, rfl, hl⟩ | ⟨hne, h2⟩
    · rw [List.getElem?_set_self (by rw [S.len]; exact hl)] at ej
      cases ej
      rcases get_set_cases hk with ⟨rfl, rfl, hl'⟩ | ⟨hne', h3⟩
      · exact hjk rfl
      · rw [List.getElem?_set_ne (fun z => hne' z.symm)] at ek
        exact fresh mk h3 ek
    · rw [List.getElem?_set_ne (fun z => hne z.symm)] at ej
      rcases get_set_cases hk with ⟨rfl, rfl, hl'⟩ | ⟨hne', h3⟩
      · rw [List.getElem?_set_self (by rw [S.len]; exact hl')] at ek
        cases ek
        exact fresh mj h2 ej
      · rw [List.getElem?_set_ne (fun z => hne' z.symm)] at ek
        exact S.sep j k y z l hjk h2 h3 mj mk ej ek
theorem bs_newD {m : Option (Out β γ)} {fr : Bool} {post : γ → List SV} {x : Str} {p1 p2 : Pos} (i : Nat) (nd : X.N.Nodup) (hr : Bs X xx (ρ.set i (.mut (MD.mk ([] : List (κ × δ))))) rest fr m post)
    (hi : X.N[i]? = some x := by rfl) (hx : Loc X.env.scope x := by first | exact Or.inl rfl | exact Or.inr rfl) (hs : swapsWith (.Dict [] [] p2) (some (.Name x p1)) pos.line X.env = pure false := by rfl)
    (hf : X.fn x = true ∨ X.env.scope.names.lookup x = some .local := by first | exact .inl rfl | exact .inr rfl) : Bs X xx ρ (.Assign [.Name x p1] (.Dict [] [] p2) pos :: rest) fr m post := .mk fun out ho We B σ W D S k => by
  refine useSs (pss_cons (ps_set nd hi hx (DKy.new (κ := κ)) hs hf) pss_run) fun p hp => ?_
  have le : W.Le (W.upH p (DKy.ob ([] : List (κ × V))) (W.fs (fre_of hp)) (fun o e => by rw [hp] at e; cases e)) := ⟨Ex.refl _, Eh.of (Ex.new hp), fun q o h1 _ h2 => h2⟩
  exact hr.run out ho We B _ _ D (S.newMut (i := i) (m := MD.mk ([] : List (κ × δ))) le (fre_of hp) (W.fs (fre_of hp)) upd_same (show MRep.orel X.K W.s _ _ (MD.mk ([] : List (κ × δ))) from ⟨(fun _ z => by cases z), [], rfl, .nil⟩)) k
/-- for target in a settled dict -/
theorem bs_forD {γ1 : Type} {tg iter : Expr} {body : List Stmt} {g : TG} {js : List Nat} {up : κ → List SV → List SV} {o : Option (Dc κ δ)} {f : κ → γ1 → Option (Out β γ1)} {m : γ1 → Option (Out β γ)} {fr : Bool} {post : γ → List SV} (P : γ1 → List SV) (g0 : γ1)
    (hg : PG X tg g) (ht : TgR X.K g js up) (hi : Ep X ρ iter o) (h0 : Wk ρ (P g0)) (hb : ∀ x g, Bs X xx (up x (P g)) body fr (f x g) P) (hr : ∀ g, Bs X xx (P g) rest fr (m g) post)
    (hp : PassesOwn (model X.prog X.w) X.A X.env X.xe) (hc : X.calm = true) (hs : ∀ x, foldedSetIterable iter X.env x = pure x := by intro _; rfl) :
    Bs X xx ρ (.For tg iter body [] pos :: rest) fr (o.bind fun d => thenO (loopL f (d.kvs.map (·.1)) g0) m) post := .mk fun out ho We B σ W D S k => by
  obtain ⟨d, hd, ho⟩ := bind_some ho
  obtain ⟨o1, h1, hf⟩ := bind_some ho
  refine useSs (pss_cons (ps_for hp hc (DKy.keys (κ := κ)) hg pss_run hs) pss_run) (hi.run d hd We B σ W _ S fun v W1 l1 ⟨p, ob, ws, e1, hp1, r1⟩ => ?_)
  subst e1
  refine ⟨p, ob, ws, rfl, W1.e _ _ hp1, for_it DKy.walk (fun i σ' H' => ∃ g' W', H' = W'.h ∧ SR X.K We W1.s (P g') σ' W' ∧ loopL f ((d.kvs.map (·.1)).drop i) g' = some o1) ?_ ?_ ?_ ?_⟩
  · exact ⟨g0, W1, rfl, ((S.mono l1).rebase (Ex.refl _)).wk h0, h1⟩
  · rintro i σ' H' _ ⟨g', W', rfl, S', _⟩
    exact W'.e _ _ (S'.b _ _ hp1)
  · rintro i v σ' H' H'' hi' ⟨g', W', rfl, S', hl⟩ ⟨rfl, kk, vv, hk, hrel⟩
    obtain ⟨x, hx, rx⟩ := pget' r1 hk
    have hx' : (d.kvs.map (·.1))[i]? = some x.1 := by rw [List.getElem?_map, hx]; rfl
    rw [drop_get hx'] at hl
    obtain ⟨o2, h2, hl⟩ := bind_some hl
    obtain ⟨W2, l2, e2, r2⟩ : ∃ W2 : Wd, W'.Le W2 ∧ W2.h = W'.h ∧ rel X.K W2.s v kk := by
      rcases hrel with q | ⟨q, xs, hq, q2⟩
      · exact ⟨W', .refl W', rfl, q _ _⟩
      · obtain ⟨W2, l2, e2, s2⟩ := W'.setT hq
        exact ⟨W2, l2, e2, q2 _ _ s2⟩
    have ek : kk = x.1 := rx.1
    rw [ek] at r2
    rw [← e2]
    refine ht.run x.1 We W1.s _ σ' W2 v _ (S'.mono l2) r2 fun σ2 S2 _ => ?_
    refine (hb x.1 g').run o2 h2 We W1.s σ2 W2 _ S2 ?_
    cases o2 with
    | ret b =>
      cases hl
      cases hf
      exact fun v' W2 l2 b2 r2 q2 => k v' W2 l2 (((S.b.trans l1.s)).trans b2) r2 q2
    | go g2 => exact fun σ3 W3 S3 => ⟨g2, W3, rfl, S3, hl⟩
    | cnt g2 => exact fun σ3 W3 S3 => ⟨g2, W3, rfl, S3, hl⟩
    | exc c =>
      cases hl
      cases hf
      exact k
  · rintro σ' H' ⟨g', W', rfl, S', hl⟩
    rw [plen r1, ← List.length_map (f := (·.1)), List.drop_length] at hl
    cases hl
    exact (hr g').run out hf We B σ' W' D (S'.rebase (((S.b.trans l1.s)).trans S'.b)) k
end
end T
/-! typed layer: what is gone over (dicts, enumerate, zip), lists of two kinds, None, sets of tuples -/
namespace T
open PySem PySem.Spec PyProof.Rows L2
open Evl (Ex)
open Rep (rel)
variable [Tb]
/-- what a for or a comprehension goes over -/
structure Itp (X : Cx) (ρ : List SV) (tg iter : Expr) {α : Type} [Rep α] (o : Option (List α)) : Prop where
  ex : ∃ wi : TI, PI X tg iter wi ∧ ∀ xs, o = some xs → ∀ (We : Wd) (B : Hp) (σ : L2.St) (W : Wd) (R : It → Hp → Prop), SR X.K We B ρ σ W →
    (∀ (J : It) (G : Hp → Prop) (Y : Nat → Hp → V → Hp → Prop) (W1 : Wd), W.Le W1 → Walk J xs.length G Y → (∀ W' : Wd, Ex W1.s W'.s → G W'.h) →
      (∀ (i : Nat) (W' : Wd) (x : V) (H' : Hp), Ex W1.s W'.s → i < xs.length → Y i W'.h x H' → ∃ a W2, xs[i]? = some a ∧ W'.Le W2 ∧ H' = W2.h ∧ rel X.K W2.s x a) → R J W1.h) → wi σ W.h R
section
variable {X : Cx} {xx : Nat → Hp → Prop} {ρ : List SV} {rest : List Stmt} {e a b : Expr} {pos : Pos}
variable {β γ : Type} [Rep β] {fr : Bool} {post : γ → List SV}
theorem bs_forI {α γ1 : Type} [Rep α] {tg iter : Expr} {body : List Stmt} {g : TG} {js : List Nat} {up : α → List SV → List SV} {o : Option (List α)} {f : α → γ1 → Option (Out β γ1)} {m : γ1 → Option (Out β γ)} (P : γ1 → List SV) (g0 : γ1)
    (hg : PG X tg g) (ht : TgR X.K g js up) (hi : Itp X ρ tg iter o) (h0 : Wk ρ (P g0)) (hb : ∀ x g, Bs X xx (up x (P g)) body fr (f x g) P) (hr : ∀ g, Bs X xx (P g) rest fr (m g) post)
    (hp : PassesOwn (model X.prog X.w) X.A X.env X.xe) (hc : X.calm = true) (hs : ∀ x, foldedSetIterable iter X.env x = pure x := by intro _; rfl) :
    Bs X xx ρ (.For tg iter body [] pos :: rest) fr (o.bind fun xs => thenO (loopL f xs g0) m) post := .mk fun out ho We B σ W D S k => by
  obtain ⟨xs, hxs, ho⟩ := bind_some ho
  obtain ⟨o1, h1, hf⟩ := bind_some ho
  obtain ⟨wi, pi, run⟩ := hi.ex
  refine useSs (pss_cons (ps_for hp hc pi hg pss_run hs) pss_run) (run xs hxs We B σ W _ S fun J G Y W1 l1 wk hG hY => ?_)
  refine for_it wk (fun i σ' H' => ∃ g' W', H' = W'.h ∧ SR X.K We W1.s (P g') σ' W' ∧ loopL f (xs.drop i) g' = some o1) ?_ ?_ ?_ ?_
  · exact ⟨g0, W1, rfl, ((S.mono l1).rebase (Ex.refl _)).wk h0, h1⟩
  · rintro i σ' H' _ ⟨g', W', rfl, S', _⟩
    exact hG W' S'.b
  · rintro i v σ' H' H'' hi' ⟨g', W', rfl, S', hl⟩ hy
    obtain ⟨x, W2, hx, l2, rfl, r2⟩ := hY i W' v H'' S'.b hi' hy
    rw [drop_get hx] at hl
    obtain ⟨o2, h2, hl⟩ := bind_some hl
    refine ht.run x We W1.s _ σ' W2 v _ (S'.mono l2) r2 fun σ2 S2 _ => ?_
    refine (hb x g').run o2 h2 We W1.s σ2 W2 _ S2 ?_
    cases o2 with
    | ret b =>
      cases hl
      cases hf
      exact fun v' W2 l2 b2 r2 q2 => k v' W2 l2 (((S.b.trans l1.s)).trans b2) r2 q2
    | go g2 => exact fun σ3 W3 S3 => ⟨g2, W3, rfl, S3, hl⟩
    | cnt g2 => exact fun σ3 W3 S3 => ⟨g2, W3, rfl, S3, hl⟩
    | exc c =>
      cases hl
      cases hf
      exact k
  · rintro σ' H' ⟨g', W', rfl, S', hl⟩
    rw [List.drop_length] at hl
    cases hl
    exact (hr g').run out hf We B σ' W' D (S'.rebase (((S.b.trans l1.s)).trans S'.b)) k
/-- a turn, the item known where it is handed over -/
theorem lcp_turnW {K : PySem.W.Frag} {We W1 W' : Wd} {B : Hp} {σ : L2.St} {D : Addr} {α β : Type} [Rep α] [Rep β] {c : α → Option Bool} {f : α → Option β} {xs : List α} {all ys zs : List β} {x : α} {i : Nat} {vs : List Nat} {js : List Nat} {up : α → List SV → List SV} {g : TG} {tt : TT} {te : TE} {v : V} {us : List V}
    (hD : W1.h D = none) (hx : xs[i]? = some x) (hcap : capOk xs.length = true) (S : SR K We B ρ σ W1) (rx : rel K W'.s v x) (ht : TgR K g js up) (hjs : ∀ j ∈ js, j ∈ vs)
    (hts : ∀ b, c x = some b → ∀ (We : Wd) (B : Hp) (σ : L2.St) (W : Wd) (Q : Bool → Hp → Prop), SR K We B (up x (wipeS ρ vs)) σ W → (∀ W', W.Le W' → Q b W'.h) → tt σ W.h Q)
    (hes : ∀ y, f x = some y → ∀ (We : Wd) (B : Hp) (σ : L2.St) (W : Wd) (Q : VK), SR K We B (up x (wipeS ρ vs)) σ W → (∀ u W', W.Le W' → rel K W'.s u y → Q u W'.h) → te σ W.h Q)
    (l1 : W1.Le W') (n1 : W'.s D = none) (h1 : W'.h D = some (.lst us)) (r1 : Paired (fun v x => rel K W'.s v x) us ys) (hl : us.length ≤ i) (hm : lcM c f (xs.drop i) = some zs) (eall : all = ys ++ zs) :
    g v (L2.wipe σ vs) W'.h fun σ2 H2 => L2.wipe σ2 vs = L2.wipe σ vs ∧ tt σ2 H2 fun b H3 =>
      if b = true then te σ2 H3 fun y H4 => ∃ acc, H4 D = some (.lst acc) ∧ acc.length < sizeLine ∧ LcP K We B ρ σ W1 D c f xs all (i + 1) (upd H4 D (.lst (acc ++ [y]))) else LcP K We B ρ σ W1 D c f xs all (i + 1) H3 := by
  subst eall
  rw [drop_get hx] at hm
  obtain ⟨b, hb, hm⟩ := bind_some hm
  have hi : i < xs.length := (List.getElem?_eq_some_iff.mp hx).1
  have S' := (S.mono l1).wipe vs
  refine ht.run x We B _ _ W' v _ S' rx fun σ2 S2 hw => ⟨?_, ?_⟩
  · rw [hw vs hjs]
    exact wipe_twice σ vs
  · refine hts b hb We B σ2 W' _ S2 fun W3 l3 => ?_
    cases b with
    | false => exact iteF ⟨W3, us, ys, zs, rfl, l1.trans l3, l3.f D _ h1 rfl n1, l3.h _ _ h1 rfl, pmono (fun _ _ h => Rep.mono l3.s h) r1, by omega, hm, rfl⟩
    | true =>
      rw [if_pos rfl] at hm
      obtain ⟨y, hy, hm⟩ := bind_some hm
      obtain ⟨zs', hz, hm⟩ := bind_some hm
      cases hm
      refine iteT (hes y hy We B σ2 W3 _ (S2.mono l3) fun u W4 l4 r4 => ⟨us, l4.h _ _ (l3.h _ _ h1 rfl) rfl, ?_, ?_⟩)
      · refine Nat.lt_of_le_of_lt ?_ (cap_lt hcap)
        omega
      · have n4 : W4.s D = none := l4.f D _ (l3.h _ _ h1 rfl) rfl (l3.f D _ h1 rfl n1)
        have l14 := (l1.trans l3).trans l4
        refine ⟨W4.upH D (.lst (us ++ [u])) n4 (fun o e => by rw [l4.h _ _ (l3.h _ _ h1 rfl) rfl] at e; cases e; rfl), us ++ [u], ys ++ [y], zs', rfl, ⟨l14.s, fun q o hq hno => ?_, l14.f⟩, n4, upd_same, papp (pmono (fun _ _ h => Rep.mono (l3.trans l4).s h) r1) (.cons r4 .nil), ?_, hz, ?_⟩
        · show upd W4.h D _ q = some o
          rw [upd_ne (fun z => by subst z; rw [hD] at hq; cases hq)]
          exact l14.h q o hq hno
        · rw [List.length_append]
          exact Nat.add_le_add_right hl 1
        · rw [List.append_assoc]
          rfl
section
variable {elt tg iter : Expr} {ifs : List Expr} {scope : Scope}
theorem lc_I {α β : Type} [Rep α] [Rep β] {g : TG} {js : List Nat} {up : α → List SV → List SV} {oxs : Option (List α)} {oc : α → Option Bool} {f : α → Option β} {tt : TT} (own : List (Str × Nat)) (ok : BlkOk X.N X.env.scope scope own) (hi : Itp X ρ tg iter oxs)
    (hg : ∀ (s : Shared) (H : Hp) (C : Addr) (cl : List (Str × Addr)) (fp : List Addr), PG (X.blk s H scope (compEnvC scope cl C X.env) fp) tg g) (ht : TgR X.K g js up) (hjs : ∀ j ∈ js, j ∈ own.map (·.2))
    (hpt : ∀ (s : Shared) (H : Hp) (C : Addr) (cl : List (Str × Addr)) (fp : List Addr), PTs (X.blk s H scope (compEnvC scope cl C X.env) fp) ifs tt)
    (hts : ∀ x b, oc x = some b → ∀ (We : Wd) (B : Hp) (σ : L2.St) (W : Wd) (Q : Bool → Hp → Prop), SR X.K We B (up x (wipeS ρ (own.map (·.2)))) σ W → (∀ W', W.Le W' → Q b W'.h) → tt σ W.h Q)
    (he : ∀ x (s : Shared) (H : Hp) (C : Addr) (cl : List (Str × Addr)) (fp : List Addr), Ep (X.blk s H scope (compEnvC scope cl C X.env) fp) (up x (wipeS ρ (own.map (·.2)))) elt (f x)) (hs : ∀ x, foldedSetIterable iter X.env x = pure x) :
    LcOk X ρ elt tg iter ifs scope (oxs.bind fun xs => if capOk xs.length then lcM oc f xs else none) := by
  obtain ⟨wi, pi, run⟩ := hi.ex
  refine ⟨_, g, tt, tElt X scope elt, own, pi, ok, hg, hpt, fun s H C cl fp => ⟨fun pins s' σ' H' Q' I h => h s H C cl fp pins s' I⟩, hs, fun all hall We B σ W Q S k => ?_⟩
  obtain ⟨xs, hxs, hm⟩ := bind_some hall
  split at hm
  · rename_i hcap
    refine run xs hxs We B σ W _ S fun J G Y W1 l1 wk hG hY => ?_
    intro D hD
    refine lc_it (g := g) (tt := tt) (te := tElt X scope elt) (σ := σ) (vs := own.map (·.2)) (Qd := fun H => Q (.ref D) H) wk (LcP X.K We B ρ σ W1 D oc f xs all) (lcp_start hD hm) ?_ ?_ ?_
    · rintro i H _ ⟨W', us, ys, zs, rfl, l2, _⟩
      exact hG W' l2.s
    · intro i v H H' hi' pv hy
      obtain ⟨W', us, ys, zs, rfl, l2, n1, h1, r1, hl, hm', eall⟩ := pv
      obtain ⟨x, W2, hx, l3, rfl, r2⟩ := hY i W' v H' l2.s hi' hy
      exact lcp_turnW hD hx hcap (S.mono l1) r2 ht hjs (fun b hb => hts x b hb) (fun y hy We' B' σ' W' Q' S' k' s H0 C cl fp => (he x s H0 C cl fp).run y hy We' B' σ' W' Q' S' k') (l2.trans l3) (l3.f D _ h1 rfl n1) (l3.h _ _ h1 rfl) (pmono (fun _ _ h => Rep.mono l3.s h) r1) hl hm' eall
    · intro H pv
      exact lcp_end l1 hD pv k
  · cases hm
end
/-! what may be gone over -/
section
variable {tg iter : Expr} {κ δ : Type} [DecidableEq κ] [Rep κ] [DKy κ] [Rep δ]
/-- the keys of a settled dict -/
def okeys (o : Option (Dc κ δ)) : Option (List κ) := o.bind fun d => some (d.kvs.map (·.1))
theorem it_keys {o : Option (Dc κ δ)} (h : Ep X ρ iter o) : Itp X ρ tg iter (okeys o) := ⟨_, DKy.keys (κ := κ), fun xs hxs We B σ W R S k => by
  obtain ⟨d, hd, hxs⟩ := bind_some hxs
  cases hxs
  refine h.run d hd We B σ W _ S fun v W1 l1 ⟨p, ob, ws, e1, hp1, r1⟩ => ?_
  have hp2 := W1.e _ _ hp1
  refine ⟨p, ob, ws, e1, hp2, k _ _ _ W1 l1 (by rw [List.length_map, ← plen r1]; exact DKy.walk (d := p) (o := ob) (l := ws)) (fun W' e => W'.e _ _ (e _ _ hp1)) fun i W' x H' e hi hy => ?_⟩
  obtain ⟨rfl, kk, vv, hk, hrel⟩ := hy
  obtain ⟨y, hy, ry⟩ := pget' r1 hk
  have hx' : (d.kvs.map (·.1))[i]? = some y.1 := by rw [List.getElem?_map, hy]; rfl
  have ek : kk = y.1 := ry.1
  rcases hrel with q | ⟨q, xs, hq, q2⟩
  · exact ⟨_, W', hx', .refl W', rfl, by rw [← ek]; exact q _ _⟩
  · obtain ⟨W2, l2, e2, s2⟩ := W'.setT hq
    exact ⟨_, W2, hx', l2, e2.symm, by rw [← ek]; exact q2 _ _ s2⟩⟩
/-- numbered -/
def oenum {α : Type} (o : Option (List α)) : Option (List (Int × α)) := o.bind fun l => some ((rngL (l.length : Int)).zip l)
theorem rngz {α : Type} (l : List α) : ((rngL (l.length : Int)).zip l).length = l.length := by rw [List.length_zip, rngL_len]; simp
theorem pair_new {α β' : Type} [Rep α] [Rep β'] {K : PySem.W.Frag} {W' : Wd} {v x y : V} {T : Addr} {a : α} {b : β'} (hn : W'.h T = none) (ev : v = .ref T) (rx : rel K W'.s x a) (ry : rel K W'.s y b) : rel K (W'.new T (.tup [x, y]) hn).s v (a, b) := by
  have l := Wd.Le.new W' (.tup [x, y]) hn
  exact ⟨T, x, y, ev, upd_same, Rep.mono l.s rx, Rep.mono l.s ry⟩
theorem it_enum {α : Type} [Rep α] {o : Option (List α)} {es : List Expr} {kk : Nat} {p1 tpos cpos : Pos} (hg : Gl X "enumerate") (hm : X.mg "enumerate" = none) (h : Ep X ρ e o) (hst : NS X e := by intro _; rfl) :
    Itp X ρ (.Tuple es kk tpos) (.Call (.Name "enumerate" p1) [e] [] cpos) (oenum o) := ⟨_, pi_enum hg hm (pa_cons pe_run pa_nil (hst _)) (hst _), fun xs hxs We B σ W R S k => by
  obtain ⟨l, hl, hxs⟩ := bind_some hxs
  cases hxs
  refine h.run l hl We B σ W _ S fun v W1 l1 ⟨p, vs, e1, hp1, r1⟩ => ?_
  subst e1
  refine ⟨p, vs, rfl, .of (W1.e _ _ hp1), k _ (fun H => SqL X.K H p vs) _ W1 l1 (by rw [rngz, ← plen r1]; exact walk_enum) (fun W' e => .of (W'.e _ _ (e _ _ hp1))) fun i W' x H' e hi hy => ?_⟩
  obtain ⟨T, x1, x2, ev, hn, rfl, h1, h2⟩ := hy
  cases h1
  obtain ⟨y, hy, ry⟩ := pget' r1 h2
  have hi' : i < l.length := by rw [rngz] at hi; exact hi
  refine ⟨((i : Int), y), W'.new T _ hn, ?_, Wd.Le.new W' _ hn, rfl, pair_new hn ev rfl (Rep.mono e ry)⟩
  rw [List.getElem?_zip_eq_some]
  exact ⟨rngL_get (by simpa using hi'), hy⟩⟩
/-- two beside one another -/
def ozip {α β' : Type} (o : Option (List α)) (o' : Option (List β')) : Option (List (α × β')) := bind2 o o' fun l m => some (l.zip m)
theorem it_zip {α β' : Type} [Rep α] [Rep β'] {o : Option (List α)} {o' : Option (List β')} {es : List Expr} {kk : Nat} {p1 tpos cpos : Pos} (hg : Gl X "zip") (hm : X.mg "zip" = none) (ha : Ep X ρ a o) (hb : Ep X ρ b o') (na : NS X a := by intro _; rfl) (nb : NS X b := by intro _; rfl)
    (hpl : (backTo cpos (starEach [b] X.env)).any (·.1) = false := by rfl) : Itp X ρ (.Tuple es kk tpos) (.Call (.Name "zip" p1) [a, b] [] cpos) (ozip o o') := ⟨_, pi_zip hg hm (pa_cons pe_run (pa_cons pe_run pa_nil (nb _)) (na _)) (na _) hpl, fun xs hxs We B σ W R S k => by
  obtain ⟨l, m, hl, hm', hxs⟩ := bind2_some hxs
  cases hxs
  refine ha.run l hl We B σ W _ S fun v W1 l1 ⟨p, vs, e1, hp1, r1⟩ => hb.run m hm' We B σ W1 _ (S.mono l1) fun u W2 l2 ⟨q, us, e2, hq1, r2⟩ => ?_
  subst e1
  subst e2
  have hp2 := l2.s _ _ hp1
  refine ⟨p, q, vs, us, rfl, .of (W2.e _ _ hp2), .of (W2.e _ _ hq1), k _ (fun H => SqL X.K H p vs ∧ SqL X.K H q us) _ W2 (l1.trans l2) (walk_zip (by rw [List.length_zip, plen r1, plen r2])) (fun W' e => ⟨.of (W'.e _ _ (e _ _ hp2)), .of (W'.e _ _ (e _ _ hq1))⟩) fun i W' x H' e hi hy => ?_⟩
  obtain ⟨T, x1, x2, ev, hn, rfl, h1, h2⟩ := hy
  obtain ⟨y1, hy1, ry1⟩ := pget' r1 h1
  obtain ⟨y2, hy2, ry2⟩ := pget' r2 h2
  refine ⟨(y1, y2), W'.new T _ hn, ?_, Wd.Le.new W' _ hn, rfl, pair_new hn ev (Rep.mono (l2.s.trans e) ry1) (Rep.mono e ry2)⟩
  rw [List.getElem?_zip_eq_some]
  exact ⟨hy1, hy2⟩⟩
end
end
end T
/-! typed layer: lists of two kinds, None, members of tuples, sets of tuples -/
namespace T
open PySem PySem.Spec PyProof.Rows L2
open Evl (Ex)
open Rep (rel)
/-- a list of two things of kinds of their own -/
structure Two (α β : Type) where
  a : α
  b : β
  deriving DecidableEq
instance {α β : Type} [Rep α] [Rep β] : Rep (Two α β) := ⟨fun K H v t => ∃ p x y, v = .ref p ∧ H p = some (.lst [x, y]) ∧ rel K H x t.a ∧ rel K H y t.b,
  fun e ⟨p, x, y, h1, h2, h3, h4⟩ => ⟨p, x, y, h1, e _ _ h2, Rep.mono e h3, Rep.mono e h4⟩⟩
instance {α β : Type} [Dat α] [Dat β] : Dat (Two α β) where
  toD := fun p => .list [Dat.toD p.a, Dat.toD p.b]
  dp := fun h => by
    obtain ⟨p, x, y, rfl, h2, h3, h4⟩ := h
    exact .lst (.of h2) (.cons (Dat.dp h3) (.cons (Dat.dp h4) .nil))
  lay := fun a => by rw [canLay_list, canLayAll_cons, canLayAll_cons, canLayAll_nil, Dat.lay, Dat.lay]; rfl
  deep := max (Dat.deep α) (Dat.deep β) + 1
  dep := fun a => by
    rw [depth_list, depthAll_cons, depthAll_cons, depthAll_nil]
    have h1 := Dat.dep a.a
    have h2 := Dat.dep a.b
    omega
  eqv := fun a b => by
    rw [eqv_list, eqvAll_cons, eqvAll_cons, eqvAll_nil, Bool.and_true, Bool.and_eq_true, Dat.eqv, Dat.eqv]
    constructor
    · rintro ⟨h1, h2⟩
      cases a
      cases b
      simp at h1 h2
      rw [h1, h2]
    · rintro rfl
      exact ⟨rfl, rfl⟩
theorem _root_.L2.Room.unit1 [Tb] {k : Nat} {A : Around} (r : Room k A) : A.units + 1 < cLine := by
  have := r.units65
  omega
variable [Tb]
section
variable {X : Cx} {ρ : List SV} {pos : Pos} {e a b : Expr}
def otwo {α β : Type} (x : Option α) (y : Option β) : Option (Two α β) := bind2 x y fun i j => some ⟨i, j⟩
theorem ep_two {α β : Type} [Rep α] [Rep β] {oa : Option α} {ob : Option β} (ha : Ep X ρ a oa) (hb : Ep X ρ b ob) (na : NS X a := by intro _; rfl) (nb : NS X b := by intro _; rfl) : Ep X ρ (.List [a, b] pos) (otwo oa ob) := .mk fun z hz We B σ W Q S k => by
  obtain ⟨x, y, hx, hy, hf⟩ := bind2_some hz
  cases hf
  refine useE (pe_lst (pa_cons pe_run (pa_cons pe_run pa_nil (nb _)) (na _))) (ha.run x hx We B σ W _ S fun v W1 l1 r1 => hb.run y hy We B σ W1 _ (S.mono l1) fun u W2 l2 r2 => ⟨(show 2 ≤ sizeLine by decide), fun p hp => ?_⟩)
  have l3 := Wd.Le.new W2 (.lst [v, u]) hp
  exact k _ (W2.new p (.lst [v, u]) hp) ((l1.trans l2).trans l3) ⟨p, v, u, rfl, upd_same, Rep.mono (l2.trans l3).s r1, Rep.mono l3.s r2⟩
def otwoA {α β : Type} (x : Option (Two α β)) : Option α := x.bind fun p => some p.a
def otwoB {α β : Type} (x : Option (Two α β)) : Option β := x.bind fun p => some p.b
theorem ep_twoA {α β : Type} [Rep α] [Rep β] {oa : Option (Two α β)} {j} {p1 : Pos} (ha : Ep X ρ a oa) : Ep X ρ (.Subscript a (.Constant (.int 0) j p1) pos) (otwoA oa) := .mk fun z hz We B σ W Q S k => by
  obtain ⟨x, hx, hf⟩ := bind_some hz
  cases hf
  refine useE (pe_ix ix_list pe_run pe_int (fun _ _ => rfl)) (ha.run x hx We B σ W _ S fun v W1 l1 ⟨p, x1, y1, e1, e2, r1, r2⟩ => ?_)
  subst e1
  exact ⟨p, [x1, y1], 0, x1, rfl, rfl, .of (W1.e _ _ e2), rfl, k _ W1 l1 r1⟩
theorem ep_twoB {α β : Type} [Rep α] [Rep β] {oa : Option (Two α β)} {j} {p1 : Pos} (ha : Ep X ρ a oa) : Ep X ρ (.Subscript a (.Constant (.int 1) j p1) pos) (otwoB oa) := .mk fun z hz We B σ W Q S k => by
  obtain ⟨x, hx, hf⟩ := bind_some hz
  cases hf
  refine useE (pe_ix ix_list pe_run pe_int (fun _ _ => rfl)) (ha.run x hx We B σ W _ S fun v W1 l1 ⟨p, x1, y1, e1, e2, r1, r2⟩ => ?_)
  subst e1
  exact ⟨p, [x1, y1], 1, y1, rfl, rfl, .of (W1.e _ _ e2), rfl, k _ W1 l1 r2⟩
/-! None -/
/-- kinds none of whose values is None -/
class NN (α : Type) extends Rep α where
  nn : ∀ {K : PySem.W.Frag} {H : Hp} {v : V} {a : α}, rel K H v a → v ≠ .non
instance : NN Int := ⟨fun h z => by rw [z] at h; cases h⟩
instance {α β : Type} [Rep α] [Rep β] : NN (α × β) := ⟨fun h z => by obtain ⟨p, x, y, h, _⟩ := h; rw [z] at h; cases h⟩
instance {α : Type} [Rep α] : NN (List α) := ⟨fun h z => by obtain ⟨p, x, h, _⟩ := h; rw [z] at h; cases h⟩
instance : NN Tri := ⟨fun h z => by obtain ⟨p, h, _⟩ := h; rw [z] at h; cases h⟩
def oisN {α : Type} (x : Option (Option α)) : Option Bool := x.bind fun o => some o.isNone
def onotN {α : Type} (x : Option (Option α)) : Option Bool := x.bind fun o => some o.isSome
theorem non_dec {α : Type} [NN α] {K : PySem.W.Frag} {H : Hp} {v : V} {o : Option α} (h : rel K H v o) : decide (v = .non) = o.isNone := by
  cases o with
  | none =>
    have : v = .non := h
    rw [this]
    rfl
  | some a =>
    have h' : rel K H v a := h
    rw [decide_eq_false (NN.nn h')]
    rfl
theorem cq_isN {α : Type} [NN α] {oa : Option (Option α)} {j} {p1 : Pos} (ha : Ep X ρ a oa) (hm : behindInMarks .Is (.Constant .none j p1) = false := by rfl) : Cq X ρ .Is a (.Constant .none j p1) (oisN oa) := by
  have key : ∀ z, oisN oa = some z → ∀ (We : Wd) (B : Hp) (σ : L2.St) (W : Wd) (Q : VK), SR X.K We B ρ σ W → (∀ v W', W.Le W' → rel X.K W'.s v z → Q v W'.h) → tIsN (RunE X a) σ W.h Q := fun z hz We B σ W Q S k => by
    obtain ⟨o, ho, hf⟩ := bind_some hz
    cases hf
    refine ha.run o ho We B σ W _ S fun v W1 l1 r1 => ?_
    rw [non_dec r1]
    exact k _ W1 l1 rfl
  refine ⟨fun pos => .mk fun z hz We B σ W Q S k => useE (pe_cmp (pc_isN pe_run) hm) (key z hz We B σ W Q S k), fun pos => .mk fun z hz We B σ W Q S k => useT (pt_cmp (pc_isN pe_run) hm) (key z hz We B σ W _ S fun v W1 l1 r1 => ⟨z, r1, k W1 l1⟩)⟩
theorem cq_notN {α : Type} [NN α] {oa : Option (Option α)} {j} {p1 : Pos} (ha : Ep X ρ a oa) (hm : behindInMarks .IsNot (.Constant .none j p1) = false := by rfl) : Cq X ρ .IsNot a (.Constant .none j p1) (onotN oa) := by
  have key : ∀ z, onotN oa = some z → ∀ (We : Wd) (B : Hp) (σ : L2.St) (W : Wd) (Q : VK), SR X.K We B ρ σ W → (∀ v W', W.Le W' → rel X.K W'.s v z → Q v W'.h) → tNotN (RunE X a) σ W.h Q := fun z hz We B σ W Q S k => by
    obtain ⟨o, ho, hf⟩ := bind_some hz
    cases hf
    refine ha.run o ho We B σ W _ S fun v W1 l1 r1 => ?_
    rw [non_dec r1]
    exact k _ W1 l1 (by cases o <;> rfl)
  refine ⟨fun pos => .mk fun z hz We B σ W Q S k => useE (pe_cmp (pc_notN pe_run) hm) (key z hz We B σ W Q S k), fun pos => .mk fun z hz We B σ W Q S k => useT (pt_cmp (pc_notN pe_run) hm) (key z hz We B σ W _ S fun v W1 l1 r1 => ⟨z, r1, k W1 l1⟩)⟩
/-- what is surely not None -/
def ojoin {α : Type} (o : Option (Option α)) : Option α := o.bind id
theorem ep_un {α : Type} [Rep α] {o : Option (Option α)} (h : Ep X ρ e o) : Ep X ρ e (ojoin o) := .mk fun z hz We B σ W Q S k => by
  obtain ⟨x, hx, hf⟩ := bind_some hz
  cases x with
  | none => cases hf
  | some y =>
    cases hf
    exact h.run (some z) hx We B σ W Q S k
/-- is True, is not True -/
theorem cq_isB {oa ob : Option Bool} (ha : Ep X ρ a oa) (hb : Ep X ρ b ob) : Cq X ρ .Is a b (oeq oa ob) := cq_mk op_isBl (nomark _) (fun x y z W v u Q hf h1 h2 k => by
  cases hf
  exact ⟨x, y, h1, h2, k _ W (.refl W) rfl⟩) ha hb
theorem cq_notB {oa ob : Option Bool} (ha : Ep X ρ a oa) (hb : Ep X ρ b ob) : Cq X ρ .IsNot a b (one_ oa ob) := cq_mk op_notBl (nomark _) (fun x y z W v u Q hf h1 h2 k => by
  cases hf
  exact ⟨x, y, h1, h2, k _ W (.refl W) rfl⟩) ha hb
/-! members of tuples -/
theorem inV_ints (x : Int) : ∀ l : List Int, inV (.int x) (l.map V.int) = decide (x ∈ l)
  | [] => by simp [inV]
  | y :: l => by
    have ih := inV_ints x l
    unfold inV at ih ⊢
    rw [List.map_cons, List.any_cons, ih]
    have e : eqV (.int y) (.int x) = decide (x = y) := by
      show (y == x) = decide (x = y)
      by_cases h : x = y
      · simp [h]
      · rw [decide_eq_false h]
        simp
        omega
    rw [e]
    by_cases h : x = y <;> simp [h]
theorem flat_ints : ∀ l : List Int, (l.map V.int).all flatV = true
  | [] => rfl
  | _ :: l => by rw [List.map_cons, List.all_cons, flat_ints l]; rfl
theorem cq_inUX {op : CmpOp} {neg : Bool} {oa : Option Int} {ob : Option (List Int)} (ho : OpR X (compareOp op) (rIn X.K neg)) (hm : behindInMarks op b = false) (ha : Ep X ρ a oa) (hb : Up X ρ b ob) : Cq X ρ op a b (bind2 oa ob fun a xs => some (if neg then !decide (a ∈ xs) else decide (a ∈ xs))) := by
  have key : ∀ x y, oa = some x → ob = some y → ∀ (We : Wd) (B : Hp) (σ : L2.St) (W : Wd) (Q : VK), SR X.K We B ρ σ W → (∀ W', W.Le W' → Q (.bl (if neg then !decide (x ∈ y) else decide (x ∈ y))) W'.h) → tOp (rIn X.K neg) (RunE X a) (RunE X b) σ W.h Q := by
    intro x y hx hy We B σ W Q S k
    refine ha.run x hx We B σ W _ S fun v W1 l1 r1 => hb.run y hy We B σ W1 _ (S.mono l1) fun p vs W2 l2 hp r2 => ?_
    cases r1
    rw [ints_eq r2] at hp
    refine ⟨p, y.map V.int, rfl, .inr (Evl.ex_t W2.e hp.sq), rfl, flat_ints y, ?_⟩
    rw [inV_ints]
    exact k W2 (l1.trans l2)
  refine ⟨fun pos => .mk fun z hz We B σ W Q S k => ?_, fun pos => .mk fun z hz We B σ W Q S k => ?_⟩
  · obtain ⟨x, y, hx, hy, hf⟩ := bind2_some hz
    cases hf
    exact useE (pe_cmpR ho pe_run pe_run hm) (key x y hx hy We B σ W _ S fun W' l => k _ W' l rfl)
  · obtain ⟨x, y, hx, hy, hf⟩ := bind2_some hz
    cases hf
    exact useT (pt_cmpR ho pe_run pe_run hm) (key x y hx hy We B σ W _ S fun W' l => ⟨_, rfl, k W' l⟩)
theorem cq_inU {oa : Option Int} {ob : Option (List Int)} (ha : Ep X ρ a oa) (hb : Up X ρ b ob) (hm : behindInMarks .In b = false := by rfl) : Cq X ρ .In a b (oin oa ob) := cq_inUX (neg := false) op_in_seq hm ha hb
theorem cq_ninU {oa : Option Int} {ob : Option (List Int)} (ha : Ep X ρ a oa) (hb : Up X ρ b ob) (hm : behindInMarks .NotIn b = false := by rfl) : Cq X ρ .NotIn a b (onin oa ob) := cq_inUX (neg := true) op_notIn_seq hm ha hb
/-! sets of tuples of ints -/
/-- tuples of whole numbers -/
class ITup (α : Type) extends Rep α where
  ns : α → List Int
  inj : ∀ a b : α, ns a = ns b → a = b
  tup : ∀ {K : PySem.W.Frag} {H : Hp} {v : V} {a : α}, rel K H v a → ∃ p, v = .ref p ∧ SqT K H p ((ns a).map V.int)
instance : ITup (Int × Int) where
  ns := fun p => [p.1, p.2]
  inj := fun a b h => by
    simp at h
    exact Prod.ext h.1 h.2
  tup := fun h => by
    obtain ⟨p, x, y, h1, h2, h3, h4⟩ := h
    cases h3
    cases h4
    exact ⟨p, h1, .of h2⟩
instance : ITup Tri where
  ns := fun p => [p.a, p.b, p.c]
  inj := fun a b h => by
    cases a
    cases b
    simp at h
    simp [h]
  tup := fun h => by
    obtain ⟨p, h1, h2⟩ := h
    exact ⟨p, h1, h2.sq⟩
theorem itups {α : Type} [ITup α] {K : PySem.W.Frag} {H : Hp} : ∀ {vs : List V} {l : List α}, Paired (fun v x => rel K H v x) vs l → ∃ ks : List (Addr × List Int), vs = ks.map (fun p => V.ref p.1) ∧ ks.map (·.2) = l.map ITup.ns ∧ (∀ p ∈ ks, SqT K H p.1 (p.2.map V.int)) ∧
    ∀ p ∈ ks, ∃ a ∈ l, p.2 = ITup.ns a ∧ rel K H (.ref p.1) a
  | _, _, .nil => ⟨[], rfl, rfl, fun p hp => (nomatch hp), fun p hp => (nomatch hp)⟩
  | _, _, .cons (a := v) (b := x) r t => by
    obtain ⟨ks, e1, e2, h3, h4⟩ := itups t
    obtain ⟨p, e, h⟩ := ITup.tup r
    subst e
    refine ⟨(p, ITup.ns x) :: ks, by rw [e1]; rfl, by rw [List.map_cons, List.map_cons, e2], fun q hq => ?_, fun q hq => ?_⟩
    · rcases List.mem_cons.mp hq with rfl | hq
      · exact h
      · exact h3 q hq
    · rcases List.mem_cons.mp hq with rfl | hq
      · exact ⟨x, by simp, rfl, r⟩
      · obtain ⟨a, ha, h5⟩ := h4 q hq
        exact ⟨a, by simp [ha], h5⟩
theorem dd_mem {α : Type} [DecidableEq α] (l : List α) : (dd l).Nodup ∧ ∀ x, x ∈ dd l ↔ x ∈ l := by
  have go : ∀ (l s : List α), s.Nodup → (l.foldl (fun s v => if v ∈ s then s else s ++ [v]) s).Nodup ∧ ∀ x, x ∈ l.foldl (fun s v => if v ∈ s then s else s ++ [v]) s ↔ x ∈ s ∨ x ∈ l := by
    intro l
    induction l with
    | nil => intro s hs; exact ⟨hs, fun x => by simp⟩
    | cons a r ih =>
      intro s hs
      rw [List.foldl_cons]
      by_cases h : a ∈ s
      · rw [if_pos h]
        refine ⟨(ih s hs).1, fun x => ?_⟩
        rw [(ih s hs).2 x, List.mem_cons]
        constructor
        · rintro (k | k)
          · exact .inl k
          · exact .inr (.inr k)
        · rintro (k | k | k)
          · exact .inl k
          · rw [k]; exact .inl h
          · exact .inr k
      · rw [if_neg h]
        have nd : (s ++ [a]).Nodup := List.nodup_append.mpr ⟨hs, by simp, fun x hx y hy => by rw [List.mem_singleton.mp hy]; exact fun z => h (by rw [← z]; exact hx)⟩
        refine ⟨(ih _ nd).1, fun x => ?_⟩
        rw [(ih _ nd).2 x, List.mem_append, List.mem_singleton, List.mem_cons, or_assoc]
  have := go l [] List.nodup_nil
  exact ⟨this.1, fun x => by rw [show dd l = l.foldl (fun s v => if v ∈ s then s else s ++ [v]) [] from rfl, this.2 x]; simp⟩
theorem perm_dd {α : Type} [ITup α] [DecidableEq α] {l : List α} {L : List (List Int)} (nd : L.Nodup) (h1 : ∀ x ∈ L, x ∈ l.map ITup.ns) (h2 : ∀ x ∈ l, ITup.ns x ∈ L) : L.Perm ((dd l).map ITup.ns) := by
  obtain ⟨n, m⟩ := dd_mem l
  have nd2 : ((dd l).map (ITup.ns (α := α))).Nodup := List.Pairwise.map _ (fun a b hab e => hab (ITup.inj a b e)) n
  refine (List.perm_ext_iff_of_nodup nd nd2).mpr fun x => ⟨fun hx => ?_, fun hx => ?_⟩
  · obtain ⟨a, ha, rfl⟩ := List.mem_map.mp (h1 x hx)
    exact List.mem_map.mpr ⟨a, (m a).mpr ha, rfl⟩
  · obtain ⟨a, ha, rfl⟩ := List.mem_map.mp hx
    exact h2 a ((m a).mp ha)
def rLenT (K : PySem.W.Frag) (P : Program) (w : World) : List V → Hp → VK → Prop := fun vs H Q => ∃ (a : Addr) (L : List (Addr × List Int)), vs = [V.ref a] ∧ H a = some (SetTO P w a L) ∧ (∀ p ∈ L, SqT K H p.1 (p.2.map V.int)) ∧ ((L.map (·.2)).Nodup → Q (.int (L.length : Nat)) H)
theorem cr_lenT (hc : X.calm = true) : CallR X (.builtin "len") (rLenT X.K X.prog X.w) := by
  intro pins s σ H vs us Q I r h
  obtain ⟨a, L, rfl, ha, hk, q⟩ := h
  have R0 : SetT0 X.prog X.w s.heap a L := (I.hok a _ ha).1
  obtain ⟨es, ep, t, R⟩ := R0.full fun p hp => I.isT (hk p hp)
  rw [Vals.ref1 r]
  obtain ⟨o, ho, hex, hd⟩ := R.ob
  refine call_len_set ho hex hd R.fits (by have := R.size; have := R.few; omega) ⟨.int (L.length : Nat), H, I.tok _, ⟨_, by rw [R.size]⟩, q R.nd⟩
/-- len(set(xs)), xs a list of fewer than 64 tuples of ints -/
def osetlT {α : Type} [DecidableEq α] (o : Option (List α)) : Option Int := o.bind fun l => if decide (l.length < 64) then some ((dd l).length : Int) else none
theorem ep_lensetT {α : Type} [ITup α] [DecidableEq α] {o : Option (List α)} {p1 p2 p3 : Pos} (hc : X.calm = true) (hu : X.A.units + 64 < cLine) (hg : Gl X "len") (hm : X.mg "len" = none) (hg2 : Gl X "set") (hm2 : X.mg "set" = none) (ha : Lp X ρ a o) (na : NS X a := by intro _; rfl) :
    Ep X ρ (.Call (.Name "len" p1) [.Call (.Name "set" p2) [a] [] p3] [] pos) (osetlT o) := .mk fun z hz We B σ W Q S k => by
  obtain ⟨l, hl, hz⟩ := bind_some hz
  split at hz
  · rename_i hsz
    cases hz
    have hsz := of_decide_eq_true hsz
    refine useE (pe_callB (cr_lenT hc) hg hm PySem.boot_len (pa_cons (pe_callTy (cr_setOfT hc hu) hg2 hm2 PyProof.Rows.boot_set (pa_cons pe_run pa_nil (na _)) (he := na _)) pa_nil rfl)) ?_
    refine ha.run l hl We B σ W _ S fun p vs W1 l1 hp r1 => ?_
    obtain ⟨ks, e1, e2, h3, h4⟩ := itups (pmono (fun _ _ h => Rep.mono W1.e h) r1)
    subst e1
    have hlen : ks.length = l.length := by have := congrArg List.length e2; simpa using this
    refine ⟨p, ks, rfl, .of hp, h3, by omega, fun b L hb sub all => ⟨b, L, rfl, upd_same, fun q hq => ?_, fun nd => ?_⟩⟩
    · have := h3 q (sub q hq)
      exact Evl.ex_t (Ex.new hb) this
    · have pm := perm_dd (l := l) nd (fun x hx => by
        obtain ⟨q, hq, rfl⟩ := List.mem_map.mp hx
        rw [← e2]
        exact List.mem_map.mpr ⟨q, sub q hq, rfl⟩) (fun x hx => by
        have : ITup.ns x ∈ ks.map (·.2) := by rw [e2]; exact List.mem_map.mpr ⟨x, hx, rfl⟩
        obtain ⟨q, hq, e⟩ := List.mem_map.mp this
        rw [← e]
        exact all q hq)
      have hL : L.length = (dd l).length := by have := pm.length_eq; simpa using this
      rw [hL]
      exact k _ (W1.new b _ hb) (l1.trans (Wd.Le.new W1 _ hb)) rfl
  · cases hz
end
end T
/-! typed layer: dicts handed over while they may still be changed; pop; sorted keys; sorted sets -/
namespace T
open PySem PySem.Spec PyProof.Rows L2
open Evl (Ex)
open Rep (rel)
/-- a dict, not locked -/
structure Du (κ β : Type) where
  kvs : List (κ × β)
section
variable {κ β : Type} [DecidableEq κ] [Rep κ] [DKy κ] [Rep β]
instance : Rep (Du κ β) := ⟨fun K H v m => ∃ p ws, v = .ref p ∧ H p = some (DKy.ob ws) ∧ DP K H ws m.kvs, fun e ⟨p, ws, h1, h2, h3⟩ => ⟨p, ws, h1, e _ _ h2, h3.mono e⟩⟩
end
def isDc : HO → Bool
  | .dK _ => true
  | .dT _ => true
  | _ => false
class DKd (κ : Type) [DecidableEq κ] [Rep κ] [DKy κ] : Prop where
  dc : ∀ l : List (κ × V), isDc (DKy.ob l) = true
instance : DKd Int := ⟨fun _ => rfl⟩
instance : DKd (Int × Int) := ⟨fun _ => rfl⟩
/-- values that lean on no dict -/
class NoD (α : Type) extends Rep α where
  minusD : ∀ {K : PySem.W.Frag} {H H' : Hp} {v : V} {a : α}, (∀ p o, H p = some o → isDc o = false → H' p = some o) → rel K H v a → rel K H' v a
instance : NoD Int := ⟨fun _ h => h⟩
instance : NoD Bool := ⟨fun _ h => h⟩
instance {α β : Type} [NoD α] [NoD β] : NoD (α × β) := ⟨fun m h => by
  obtain ⟨p, x, y, h1, h2, h3, h4⟩ := h
  exact ⟨p, x, y, h1, m _ _ h2 rfl, NoD.minusD m h3, NoD.minusD m h4⟩⟩
instance : NoD Tri := ⟨fun m h => by
  obtain ⟨p, h1, ob, h2, h3⟩ := h
  exact ⟨p, h1, ob, m _ _ h2 rfl, h3⟩⟩
instance {α : Type} [NoD α] : NoD (List α) := ⟨fun m h => by
  obtain ⟨p, vs, h1, h2, h3⟩ := h
  exact ⟨p, vs, h1, m _ _ h2 rfl, pmono (fun _ _ h => NoD.minusD m h) h3⟩⟩
variable [Tb]
section
variable {X : Cx} {xx : Nat → Hp → Prop} {ρ : List SV} {rest : List Stmt} {e a b : Expr} {pos : Pos}
variable {β γ κ δ : Type} [Rep β] [DecidableEq κ] [Rep κ] [DKy κ] [Rep δ] {fr : Bool} {post : γ → List SV}
/-! reading -/
def odgetU (d : Option (Du κ δ)) (k : Option κ) : Option δ := bind2 d k fun d k => dget d.kvs k
def odinU (k : Option κ) (d : Option (Du κ δ)) : Option Bool := bind2 k d fun k d => some (dget d.kvs k).isSome
def odninU (k : Option κ) (d : Option (Du κ δ)) : Option Bool := bind2 k d fun k d => some (!(dget d.kvs k).isSome)
theorem ep_dgetU {od : Option (Du κ δ)} {ok : Option κ} {i : Expr} (hu : X.A.units + 1 < cLine) (ha : Ep X ρ a od) (hi : Ep X ρ i ok) (hs : NoSl i) : Ep X ρ (.Subscript a i pos) (odgetU od ok) := .mk fun z hz We B σ W Q S k => by
  obtain ⟨d, x, hd, hx, hz⟩ := bind2_some hz
  refine useE (pe_dget hu pe_run pe_run hs) (ha.run d hd We B σ W _ S fun v W1 l1 ⟨p, ws, e1, e2, r⟩ => hi.run x hx We B σ W1 _ (S.mono l1) fun y W2 l2 r2 => ?_)
  have r' := r.mono l2.s
  obtain ⟨w, hw, rw_⟩ := r'.get.1 z hz
  have g := DKy.get (l := ws) (.inl (W2.e _ _ (l2.s _ _ e2))) r2 W2.e
  rw [hw] at g
  exact ⟨p, w, e1, g, k _ W2 (l1.trans l2) rw_⟩
theorem cq_dinU {b : Expr} {ok : Option κ} {od : Option (Du κ δ)} (hu : X.A.units + 1 < cLine) (ha : Ep X ρ a ok) (hb : Ep X ρ b od) (hm : behindInMarks .In b = false := by rfl) : Cq X ρ .In a b (odinU ok od) := by
  have key : ∀ z, odinU ok od = some z → ∀ (We : Wd) (B : Hp) (σ : L2.St) (W : Wd) (Q : VK), SR X.K We B ρ σ W → (∀ v W', W.Le W' → rel X.K W'.s v z → Q v W'.h) → tDIn (RunE X a) (RunE X b) σ W.h Q := fun z hz We B σ W Q S k => by
    obtain ⟨x, d, hx, hd, hf⟩ := bind2_some hz
    cases hf
    refine ha.run x hx We B σ W _ S fun y W1 l1 r1 => hb.run d hd We B σ W1 _ (S.mono l1) fun v W2 l2 ⟨p, ws, e1, e2, r⟩ => ?_
    have g := DKy.get (l := ws) (.inl (W2.e _ _ e2)) (Rep.mono l2.s r1) W2.e
    exact ⟨p, _, e1, g, by rw [r.get.2]; exact k _ W2 (l1.trans l2) rfl⟩
  refine ⟨fun pos => .mk fun z hz We B σ W Q S k => useE (pe_cmp (pc_din hu pe_run pe_run) hm) (key z hz We B σ W Q S k), fun pos => .mk fun z hz We B σ W Q S k => useT (pt_cmp (pc_din hu pe_run pe_run) hm) (key z hz We B σ W _ S fun v W1 l1 r1 => ⟨z, r1, k W1 l1⟩)⟩
theorem cq_dninU {b : Expr} {ok : Option κ} {od : Option (Du κ δ)} (hu : X.A.units + 1 < cLine) (ha : Ep X ρ a ok) (hb : Ep X ρ b od) (hm : behindInMarks .NotIn b = false := by rfl) : Cq X ρ .NotIn a b (odninU ok od) := by
  have key : ∀ z, odninU ok od = some z → ∀ (We : Wd) (B : Hp) (σ : L2.St) (W : Wd) (Q : VK), SR X.K We B ρ σ W → (∀ v W', W.Le W' → rel X.K W'.s v z → Q v W'.h) → tDNotIn (RunE X a) (RunE X b) σ W.h Q := fun z hz We B σ W Q S k => by
    obtain ⟨x, d, hx, hd, hf⟩ := bind2_some hz
    cases hf
    refine ha.run x hx We B σ W _ S fun y W1 l1 r1 => hb.run d hd We B σ W1 _ (S.mono l1) fun v W2 l2 ⟨p, ws, e1, e2, r⟩ => ?_
    have g := DKy.get (l := ws) (.inl (W2.e _ _ e2)) (Rep.mono l2.s r1) W2.e
    exact ⟨p, _, e1, g, by rw [r.get.2]; exact k _ W2 (l1.trans l2) rfl⟩
  refine ⟨fun pos => .mk fun z hz We B σ W Q S k => useE (pe_cmp (pc_dnotin hu pe_run pe_run) hm) (key z hz We B σ W Q S k), fun pos => .mk fun z hz We B σ W Q S k => useT (pt_cmp (pc_dnotin hu pe_run pe_run) hm) (key z hz We B σ W _ S fun v W1 l1 r1 => ⟨z, r1, k W1 l1⟩)⟩
/-! a dict that is lent -/
theorem SR.lend {K : PySem.W.Frag} {We W : Wd} {B : Hp} {σ : L2.St} {α α' : Type} [MRep α] [Rep α'] {i : Nat} {m : α} {a : α'} {l : Addr} {ob : HO} (S : SR K We B ρ σ W) (h : ρ[i]? = some (.mut m)) (e1 : σ[i]? = some (some (.ref l))) (n1 : fre We.h l) (n2 : W.s l = none) (hh : W.h l = some ob) (ho : isTb ob = false)
    (f : rel K (upd W.s l ob) (.ref l) a) : SR K We B (ρ.set i (.imm a)) σ (W.settle l ob hh ho) := by
  have ex : Ex W.s (upd W.s l ob) := Ex.new n2
  refine ⟨⟨S.le.s.trans ex, S.le.h, fun p o h1 hno h2 => ?_⟩, S.b.trans ex, by rw [List.length_set]; exact S.len, fun j y hj => ?_, fun j k y z l' hjk hj hk mj mk ej ek => ?_⟩
  · show upd W.s l ob p = none
    rw [upd_ne (fun z => by subst z; exact fre_no n1 h1 (tb_of_pl hno))]
    exact S.le.f p o h1 hno h2
  · rcases get_set_cases hj with ⟨rfl, rfl, hl⟩ | ⟨hne, h2⟩
    · exact ⟨.ref l, e1, f⟩
    · have s0 := S.at_ j y h2
      match y, s0 with
      | .any, _ => trivial
      | @SV.imm _ ii a, ⟨v, e, rr⟩ => exact ⟨v, e, ii.mono ex rr⟩
      | @SV.mut _ ii a, ⟨l', ob', e, n, s, hh', rr⟩ =>
        refine ⟨l', ob', e, n, ?_, hh', ii.mono ex rr⟩
        show upd W.s l ob l' = none
        rw [upd_ne (fun z => ?_)]
        · exact s
        · subst z
          exact S.sep j i _ _ l' hne h2 h trivial trivial e e1
  · rcases get_set_cases hj with ⟨rfl, rfl, hl⟩ | ⟨hne, h2⟩
    · exact mj.elim
    · rcases get_set_cases hk with ⟨rfl, rfl, hl⟩ | ⟨hne', h3⟩
      · exact mk.elim
      · exact S.sep j k y z l' hjk h2 h3 mj mk ej ek
theorem Wd.Le.lent {W W' : Wd} {l : Addr} {ob : HO} (n2 : W.s l = none) (hh : W.h l = some ob) (ho : isTb ob = false) (le : (W.settle l ob hh ho).Le W') : W.Le (W'.unset l) := by
  refine ⟨fun p o h => ?_, le.h, fun p o h1 hno h2 => ?_⟩
  · have hp : p ≠ l := fun z => by subst z; rw [n2] at h; cases h
    show (if p = l then none else W'.s p) = some o
    rw [if_neg hp]
    refine le.s p o ?_
    show upd W.s l ob p = some o
    rw [upd_ne hp]
    exact h
  · show (if p = l then none else W'.s p) = none
    by_cases hp : p = l
    · rw [if_pos hp]
    · rw [if_neg hp]
      refine le.f p o h1 hno ?_
      show upd W.s l ob p = none
      rw [upd_ne hp]
      exact h2
theorem unset_keep {W' : Wd} {l : Addr} {ob : HO} (hl : W'.s l = some ob) (dc : isDc ob = true) : ∀ p o, W'.s p = some o → isDc o = false → (W'.unset l).s p = some o := fun p o h1 h2 => by
  show (if p = l then none else W'.s p) = some o
  rw [if_neg (fun z => by subst z; rw [hl] at h1; cases h1; rw [dc] at h2; cases h2)]
  exact h1
theorem ep_borrow [DKd κ] {α : Type} [NoD α] {l0 : Option Addr} {m : MA l0 κ δ} {o : Option α} (i : Nat) (h : Ep X (ρ.set i (.imm (Du.mk m.kvs))) e o) (hi : ρ[i]? = some (.mut m) := by rfl) : Ep X ρ e o := .mk fun z hz We B σ W Q S k => by
  obtain ⟨l, ob, e1, n1, n2, hh, al, ws, rfl, r⟩ := S.at_ i _ hi
  have ho : isTb (DKy.ob ws) = false := tb_of_pl (DKy.pl ws)
  have S3 := S.lend (a := Du.mk m.kvs) hi e1 n1 n2 hh ho ⟨l, ws, rfl, upd_same, r.mono (Ex.new n2)⟩
  refine h.run z hz We B σ (W.settle l _ hh ho) Q S3 fun v W' le r' => k v (W'.unset l) (Wd.Le.lent n2 hh ho le) ?_
  exact NoD.minusD (unset_keep (le.s _ _ upd_same) (DKd.dc ws)) r'
theorem ep_borrowF [DKd κ] {α : Type} [NoD α] {l0 : Option Addr} {m : MA l0 κ δ} {o : Option (List α)} (i : Nat) (h : EpF X (ρ.set i (.imm (Du.mk m.kvs))) e o) (hi : ρ[i]? = some (.mut m) := by rfl) : EpF X ρ e o := .mk fun z hz We B σ W Q S k => by
  obtain ⟨l, ob, e1, n1, n2, hh, al, ws, rfl, r⟩ := S.at_ i _ hi
  have ho : isTb (DKy.ob ws) = false := tb_of_pl (DKy.pl ws)
  have S3 := S.lend (a := Du.mk m.kvs) hi e1 n1 n2 hh ho ⟨l, ws, rfl, upd_same, r.mono (Ex.new n2)⟩
  refine h.run z hz We B σ (W.settle l _ hh ho) Q S3 fun p vs W' le hn hp r' => k p vs (W'.unset l) (Wd.Le.lent n2 hh ho le) hn ?_ (pmono (fun _ _ h => NoD.minusD (unset_keep (le.s _ _ upd_same) (DKd.dc ws)) h) r')
  exact unset_keep (le.s _ _ upd_same) (DKd.dc ws) _ _ hp rfl
theorem tp_borrow [DKd κ] {l0 : Option Addr} {m : MA l0 κ δ} {o : Option Bool} (i : Nat) (h : Tp X (ρ.set i (.imm (Du.mk m.kvs))) e o) (hi : ρ[i]? = some (.mut m) := by rfl) : Tp X ρ e o := .mk fun z hz We B σ W Q S k => by
  obtain ⟨l, ob, e1, n1, n2, hh, al, ws, rfl, r⟩ := S.at_ i _ hi
  have ho : isTb (DKy.ob ws) = false := tb_of_pl (DKy.pl ws)
  have S3 := S.lend (a := Du.mk m.kvs) hi e1 n1 n2 hh ho ⟨l, ws, rfl, upd_same, r.mono (Ex.new n2)⟩
  exact h.run z hz We B σ (W.settle l _ hh ho) Q S3 fun W' le => k (W'.unset l) (Wd.Le.lent n2 hh ho le)
/-! new dicts handed back -/
structure EpD (X : Cx) (ρ : List SV) (e : Expr) {κ δ : Type} [DecidableEq κ] [Rep κ] [DKy κ] [Rep δ] (o : Option (Du κ δ)) : Prop where
  run : ∀ x, o = some x → ∀ (We : Wd) (B : Hp) (σ : L2.St) (W : Wd) (Q : VK), SR X.K We B ρ σ W → (∀ p ws W', W.Le W' → fre W.h p → W'.s p = some (DKy.ob ws) → DP X.K W'.s ws x.kvs → Q (.ref p) W'.h) → RunE X e σ W.h Q
theorem bs_retD {d : MD κ δ} {x : Str} {p1 : Pos} (i : Nat) (hi : ρ[i]? = some (.mut d) := by rfl) (hN : X.N[i]? = some x := by rfl) (hv : Vis X.env.scope x := by first | exact Or.inl rfl | exact Or.inr (Or.inl rfl) | exact Or.inr (Or.inr rfl)) (hd : (x == ("__debug__" : Str)) = false := by decide)
    (hcd : (x == ("__classdict__" : Str)) = false := by decide) : Bs X xx ρ (.Return (some (.Name x p1)) pos :: rest) (β := Du κ δ) fr (some (.ret (Du.mk d.kvs))) post := .mk fun out ho We B σ W D S k => by
  cases ho
  obtain ⟨l, ob, e1, n1, n2, hh, al, ws, rfl, r⟩ := S.at_ i _ hi
  have ho : isTb (DKy.ob ws) = false := tb_of_pl (DKy.pl ws)
  have S3 := S.lend (a := Du.mk d.kvs) hi e1 n1 n2 hh ho ⟨l, ws, rfl, upd_same, r.mono (Ex.new n2)⟩
  exact useSs (pss_cons (ps_ret (pe_var hN hv hd hcd)) pss_run) ⟨_, e1, k _ (W.settle l _ hh ho) S3.le S3.b ⟨l, ws, rfl, upd_same, r.mono (Ex.new n2)⟩ fun _ => ⟨l, rfl, n1⟩⟩
theorem bs_asgD {κ δ : Type} [DecidableEq κ] [Rep κ] [DKy κ] [NoD δ] [DKd κ] {o : Option (Du κ δ)} {f : List (κ × δ) → Option (Out β γ)} {x : Str} {p1 : Pos} (i : Nat) (nd : X.N.Nodup) (he : EpD X ρ e o) (hr : ∀ a, Bs X xx (ρ.set i (.mut (MD.mk a))) rest fr (f a) post)
    (hi : X.N[i]? = some x := by rfl) (hx : Loc X.env.scope x := by first | exact Or.inl rfl | exact Or.inr rfl) (hs : swapsWith e (some (.Name x p1)) pos.line X.env = pure false := by rfl)
    (hf : X.fn x = true ∨ X.env.scope.names.lookup x = some .local := by first | exact .inl rfl | exact .inr rfl) : Bs X xx ρ (.Assign [.Name x p1] e pos :: rest) fr (o.bind fun d => f d.kvs) post := .mk fun out ho We B σ W D S k => by
  obtain ⟨y, hy, hf'⟩ := bind_some ho
  refine useSs (pss_cons (ps_set nd hi hx pe_run hs hf) pss_run) (he.run y hy We B σ W _ S fun p ws W1 l1 hn hp r1 => ?_)
  have hsn : W.s p = none := W.fs hn
  have le2 : W.Le (W1.unset p) := ⟨fun q o h => by
    show (if q = p then none else W1.s q) = some o
    rw [if_neg (fun z => by subst z; rw [hsn] at h; cases h)]
    exact l1.s q o h, l1.h, fun q o h1 n h2 => by
    show (if q = p then none else W1.s q) = none
    rw [if_neg (fun z => by subst z; exact fre_no hn h1 (tb_of_pl n))]
    exact l1.f q o h1 n h2⟩
  have orl : MRep.orel X.K (W1.unset p).s p (DKy.ob ws) (MD.mk y.kvs) := ⟨(fun _ z => by cases z), ws, rfl, pmono (fun _ _ ⟨a, b⟩ => ⟨a, NoD.minusD (unset_keep hp (DKd.dc ws)) b⟩) r1⟩
  have S2 := S.newMut (W' := W1.unset p) (i := i) (m := MD.mk y.kvs) le2 hn (show (if p = p then none else W1.s p) = none from if_pos rfl) (W1.e _ _ hp) orl
  exact (hr y.kvs).run out hf' We B _ (W1.unset p) D S2 k
/-! one taken out -/
def ddrop (d : List (κ × δ)) (k : κ) : List (κ × δ) := d.filter fun kv => !decide (kv.1 = k)
end
def rPopT1 : V → List V → Hp → VK → Prop := fun x xs H Q => ∃ (a : Addr) (kvs : List (List L2.Key × V)) (k : List L2.Key) (b : Addr) (v : V), x = .ref a ∧ xs = [.ref b] ∧ H a = some (.dT kvs) ∧ H b = some (.tup (k.map kV)) ∧
  valV kvs k = some v ∧ Q v (upd H a (.dT (dropK kvs k)))
theorem mt_popT1 {X : Cx} (hu : X.A.units + 1 < cLine) : MtR X "dict.pop" rPopT1 := by
  intro pins s σ H x xs v us Q I rx rxs h
  obtain ⟨a, kvs, k, b, v0, rfl, rfl, ha, hb, ev, q1⟩ := h
  cases rx
  obtain ⟨u1, rfl, r1⟩ := vals1 rxs
  cases r1
  obtain ⟨z, hd, xs', rel, dd⟩ := dt_of I.hok ha
  have hz : xs'.length ≤ sizeLine := by rw [← Paired.length rel]; exact z
  have hv : ∀ p, atKey xs' k = some p → RelV v0 p.2 := fun p hp => by
    have r := rel.val k
    rw [hp, ev] at r
    exact r
  refine call_meetsIn PySem.F.slot_dict_pop dd.typeIs PySem.F.entry_dict_pop (PySem.F.args_dict_pop_2 _ _) (meetsH_dict_pop (knd := tupleKind (mixKind X.prog X.w)) _ _ hd [] (.inl rfl))
    ⟨tupleKind_room_in1 hu, k, xs', key_of I.hok hb, dd, hz, fun p hp h' dd' hs => ?_, fun hn => ?_⟩
  · obtain ⟨o, es, ep, hq, h2, h3, h4, _, h5⟩ := dd'
    exact ⟨v0, _, d_write (ob := .dT (dropK kvs k)) I (by rw [ha]; exact True.intro) hs ⟨o, hq⟩ ⟨Nat.le_trans (dropK_le kvs k) z, hd, _, (DX.KT_drop k rel).keeps (fun c ys ec => (by rw [upd_ne (ne_of ec ha (fun z => nomatch z))]; exact ec)), o, es, ep, hq, h2, h3, h4, h5⟩, hv p hp, q1⟩
  · have r := rel.val k
    rw [hn, ev] at r
    exact (show False from r).elim
section
variable {X : Cx} {xx : Nat → Hp → Prop} {ρ : List SV} {rest : List Stmt} {e a b : Expr} {pos : Pos}
variable {β γ : Type} [Rep β] {fr : Bool} {post : γ → List SV}
theorem dropK_map (k : Int × Int) (l : List ((Int × Int) × V)) : dropK (l.map fun kv => (kP kv.1, kv.2)) (kP k) = (ddrop l k).map fun kv => (kP kv.1, kv.2) := by
  unfold dropK ddrop
  rw [List.filter_map]
  congr 1
  refine List.filter_congr fun x _ => ?_
  show decide (kP x.1 ≠ kP k) = !decide (x.1 = k)
  by_cases h : x.1 = k
  · simp [h]
  · have : ¬ kP x.1 = kP k := fun z => h (kP_inj _ _ z)
    simp [h, this]
theorem DP.drop {δ : Type} [Rep δ] {K : PySem.W.Frag} {H : Hp} {k : Int × Int} : ∀ {ws : List ((Int × Int) × V)} {l : List ((Int × Int) × δ)}, DP K H ws l → DP K H (ddrop ws k) (ddrop l k)
  | _, _, .nil => .nil
  | _, _, .cons (a := w) (b := y) ⟨e, r⟩ t => by
    unfold ddrop
    rw [List.filter_cons, List.filter_cons, e]
    by_cases q : y.1 = k
    · simp only [q, decide_true, Bool.not_true, Bool.false_eq_true, if_false]
      exact DP.drop t
    · simp only [q, decide_false, Bool.not_false, if_true]
      exact .cons ⟨e, r⟩ (DP.drop t)
def odpop {δ : Type} {l0 : Option Addr} (m : MA l0 (Int × Int) δ) (k : Option (Int × Int)) : Option (δ × List ((Int × Int) × δ)) := k.bind fun k => (dget m.kvs k).bind fun v => some (v, ddrop m.kvs k)
/-- c = d.pop(k) -/
theorem run_dpop {δ : Type} [Rep δ] {l0 : Option Addr} {m : MA l0 (Int × Int) δ} {ok : Option (Int × Int)} {i : Expr} {x : Str} {p0 p1 : Pos} (j : Nat) (hu : X.A.units + 1 < cLine) (hk : Ep X ρ i ok) (hρ : ρ[j]? = some (.mut m)) (hN : X.N[j]? = some x) (hvi : Vis X.env.scope x) (hd : (x == ("__debug__" : Str)) = false) (hcd : (x == ("__classdict__" : Str)) = false)
    (hst : NS X i) (hbase : attributeBase (.Name x p0) "pop" X.env (eval (.Name x p0) X.env) = eval (.Name x p0) X.env)
    (hfew : ((backTo pos (starEach [i] X.env)).all (fun x => !x.1) && (backToKw pos (keywordEach [] X.env)).all (fun x => x.1.isSome)
      && decide ([i].length + ([] : List Keyword).length + (if ([] : List Keyword).isEmpty then 0 else 1) < 30)) = true) (hline : (p1.endLine == pos.line) = true)
    {z : δ × List ((Int × Int) × δ)} (hz : odpop m ok = some z) (We : Wd) (B : Hp) (σ : L2.St) (W : Wd) (Q : VK) (S : SR X.K We B ρ σ W)
    (k : ∀ v W', SR X.K We B (ρ.set j (.mut (MA.mk (l0 := l0) z.2))) σ W' → rel X.K W'.s v z.1 → Q v W'.h) : RunE X (.Call (.Attribute (.Name x p0) "pop" p1) [i] [] pos) σ W.h Q := by
  obtain ⟨kk, hkk, hz⟩ := bind_some hz
  obtain ⟨vv, hvv, hz⟩ := bind_some hz
  cases hz
  obtain ⟨l, ob, e1, n1, n2, hh, al, ws, rfl, r⟩ := S.at_ j _ hρ
  refine useE (pe_bm PySem.F.plainAttrs_dict PySem.F.slot_dict_pop PySem.F.type_dict_pop (mt_popT1 hu) (pe_var hN hvi hd hcd) (pa_cons pe_run pa_nil (hst _)) hbase hfew hline (hst _)) ?_
  refine ⟨.ref l, e1, .inr (.inr (.inl ⟨rfl, .inr ⟨_, hh⟩⟩)), hk.run kk hkk We B σ W _ S fun q W1 l1 ⟨p, y1, y2, eq, hp, ry1, ry2⟩ => ?_⟩
  cases ry1
  cases ry2
  have r' := r.mono l1.s
  obtain ⟨w, hw, rw_⟩ := r'.get.1 vv hvv
  have hh1 := l1.h _ _ hh (tb_of_pl (DKy.pl ws))
  have vm := valV_map (f := kP) kP_inj kk ws
  rw [hw] at vm
  refine ⟨l, _, kP kk, p, w, rfl, by rw [eq], hh1, W1.e _ _ hp, vm, ?_⟩
  rw [dropK_map]
  obtain ⟨W3, e3, es3, S3⟩ := (S.mono l1).mutateS (δ := MA l0 (Int × Int) δ) (m' := MA.mk (ddrop m.kvs kk)) (ob := DKy.ob (ddrop ws kk)) hρ e1 (show MRep.orel X.K W1.s _ _ (MA.mk (l0 := l0) (ddrop m.kvs kk)) from ⟨al, _, rfl, r'.drop⟩)
  have e4 : upd W1.h l (DKy.ob (ddrop ws kk)) = W3.h := e3.symm
  show Q w (upd W1.h l (DKy.ob (ddrop ws kk)))
  rw [e4]
  refine k w W3 S3 ?_
  rw [es3]
  exact rw_
end
end T
/-! typed layer: sorted(dict), sorted(set(tuples)), a dict changed by a def, pop, min and max of pairs -/
namespace T
open PySem PySem.Spec PyProof.Rows L2
open Evl (Ex)
open Rep (rel)
variable [Tb]
section
variable {X : Cx} {xx : Nat → Hp → Prop} {ρ : List SV} {rest : List Stmt} {e a b : Expr} {pos : Pos}
variable {β γ κ δ : Type} [Rep β] [DecidableEq κ] [Rep κ] [DKy κ] [Rep δ] {fr : Bool} {post : γ → List SV}
/-! ### min, max of a pair -/
def opmin (o : Option (Int × Int)) : Option Int := o.bind fun p => some (if p.2 < p.1 then p.2 else p.1)
def opmax (o : Option (Int × Int)) : Option Int := o.bind fun p => some (if p.1 < p.2 then p.2 else p.1)
theorem ep_minP {o : Option (Int × Int)} {p1 : Pos} (hc : X.calm = true) (hr : X.A.units + 64 < cLine) (hg : Gl X "min") (hm : X.mg "min" = none) (ha : Ep X ρ a o) (hst : NS X a := by intro _; rfl) : Ep X ρ (.Call (.Name "min" p1) [a] [] pos) (opmin o) := .mk fun z hz We B σ W Q S k => by
  obtain ⟨l, hl, hz⟩ := bind_some hz
  cases hz
  refine useE (pe_callB (cr_minD (β := Int) hc hr (by decide)) hg hm boot_min (pa_cons pe_run pa_nil (hst _)) (he := hst _)) (ha.run l hl We B σ W _ S fun v W1 l1 ⟨p, x, y, e1, e2, r1, r2⟩ => ?_)
  refine ⟨p, [x, y], l.1, [l.2], fun v x => rel X.K W1.s v x, by rw [e1], .inr (.of (W1.e _ _ e2)), .cons r1 (.cons r2 .nil), fun x b f => Dp.mono' W1.e _ _ (Dat.dp f), fun y hy => k y W1 l1 ?_⟩
  have : minF l.1 [l.2] = if l.2 < l.1 then l.2 else l.1 := by
    show (if decide (l.2 < l.1) = true then l.2 else l.1) = _
    simp
  rw [← this]
  exact hy
theorem ep_maxP {o : Option (Int × Int)} {p1 : Pos} (hc : X.calm = true) (hr : X.A.units + 64 < cLine) (hg : Gl X "max") (hm : X.mg "max" = none) (ha : Ep X ρ a o) (hst : NS X a := by intro _; rfl) : Ep X ρ (.Call (.Name "max" p1) [a] [] pos) (opmax o) := .mk fun z hz We B σ W Q S k => by
  obtain ⟨l, hl, hz⟩ := bind_some hz
  cases hz
  refine useE (pe_callB (cr_maxD (β := Int) hc hr (by decide)) hg hm (by decide +kernel) (pa_cons pe_run pa_nil (hst _)) (he := hst _)) (ha.run l hl We B σ W _ S fun v W1 l1 ⟨p, x, y, e1, e2, r1, r2⟩ => ?_)
  refine ⟨p, [x, y], l.1, [l.2], fun v x => rel X.K W1.s v x, by rw [e1], .inr (.of (W1.e _ _ e2)), .cons r1 (.cons r2 .nil), fun x b f => Dp.mono' W1.e _ _ (Dat.dp f), fun y hy => k y W1 l1 ?_⟩
  have : maxF l.1 [l.2] = if l.1 < l.2 then l.2 else l.1 := by
    show (if decide (l.1 < l.2) = true then l.2 else l.1) = _
    simp
  rw [← this]
  exact hy
/-! ### sorted(d), d a dict by pairs -/
def FK (H : Hp) (x : V) (k : Int × Int) : Prop := ∃ b, x = .ref b ∧ H b = some (.tup [.int k.1, .int k.2])
theorem fk_of {H : Hp} : ∀ {l : List ((Int × Int) × V)} {bs : List Addr}, IsKeys H (l.map fun kv => (kP kv.1, kv.2)) bs → Paired (FK H) (bs.map V.ref) (l.map (·.1))
  | [], _, h => by
    cases h
    exact .nil
  | p :: r, _, h => by
    cases h with
    | cons h t => exact .cons ⟨_, rfl, h⟩ (fk_of t)
theorem reads_pair {h : Heap} {v : Value} {k : Int × Int} {as : List Addr} (r : Reads h v (Dat.toD k) as) : as = [] := by
  cases r with
  | @tuple _ _ vs _ _ _ h1 h2 h3 h4 =>
    generalize vs.toList = l at h4
    cases h4 with
    | cons a b =>
      cases a
      cases b with
      | cons a b =>
        cases a
        cases b
        rfl
/-- what a walk over such a dict gathers: its keys, in their order -/
theorem gath_keys {P : Program} {w : World} {es : Array DictEntry} {acc : Array Value} {ks : List (List Key × Addr × Value)} (he : es.toList = ks.map (entryOfKey (tupleKind (mixKind P w)))) (hn : acc.size = es.size)
    (hv : ∀ (j : Nat) (v : Value), acc[j]? = some v → ∃ en : DictEntry, es[j]? = some en ∧ v = en.key) : acc.toList = ks.map fun x => Value.ref x.2.1 := by
  have en : es.size = ks.length := by simpa using congrArg List.length he
  refine List.ext_getElem (by simp [hn, en]) fun i h1 h2 => ?_
  obtain ⟨d, hd, e⟩ := hv i acc.toList[i] (by simp)
  have : es.toList[i]? = some d := by simpa using hd
  rw [he, List.getElem?_map, List.getElem?_eq_getElem (by simpa using h2)] at this
  cases this
  simpa [entryOfKey] using e
theorem call_sortedDP (hc : X.calm = true) (hr : X.A.units + 64 < cLine) : CallR X (.builtin "sorted") (fun xs H Q => ∃ (d : Addr) (l : List ((Int × Int) × V)), xs = [V.ref d] ∧ Rd H d (DKy.ob l) ∧
    ∀ ys p, Paired (FK H) ys ((l.map (·.1)).mergeSort fun x y => !Ordd.lt y x) → H p = none → Q (.ref p) (upd H p (.lst ys))) := by
  intro pins s σ H xs us Q I r h
  obtain ⟨d, l, rfl, hd, q⟩ := h
  obtain ⟨u, rfl, rx⟩ := vals1 r
  cases rx
  obtain ⟨z, hs, ks, pr, o, es, ep, ho, hx, hdt, he, hn⟩ := (show ObjOk X.prog X.w H s.heap d (.dT (l.map fun kv => (kP kv.1, kv.2))) from hd.ok I.hok)
  have l1 : es.size = ks.length := size_of_entries he
  have l2 : (l.map fun kv => (kP kv.1, kv.2)).length = ks.length := Paired.length pr
  rw [List.length_map] at l2 z
  refine Calls.call_function_entry PyProof.Rows.kind_sorted PyProof.Rows.plain_sorted PyProof.Rows.entry_sorted (PyProof.Rows.args_sorted1 _) ?_
  unfold Builtin.«sorted»
  refine wpAny_bind (m := checkCount "sorted" 1 1 _) (wpAny_pure ?_)
  refine wpAny_bind (PySem.W.kdu_collect (A := X.A.in1) (kdl_raw hs hx hdt) (I.ok.hd hc) ho (by omega) fun h' tk acc kp it => ?_)
  have ea : acc.toList = ks.map fun x => Value.ref x.2.1 := gath_keys he it.1 it.2
  have eb : acc.toList = (ks.map fun x => x.2.1).map Value.ref := by rw [ea, List.map_map]; all_goals rfl
  have rv : Vals ((ks.map fun x => x.2.1).map V.ref) acc.toList := by rw [eb]; exact vals_refs _
  have hp := fk_of (isKeys_of pr)
  have e1 := each_of hp rv
  have I1 : Inv X pins σ H { s with heap := h', toks := tk } := I.kept kp
  have hlen : acc.toList.length = l.length := by rw [ea, List.length_map, l2]
  have hF : ∀ x b, FK H x b → Dp X.K H x (Dat.toD b) := fun x b ⟨c, e, hb⟩ => by
    subst e
    exact Dp.tup (.of hb) (.cons (.int _) (.cons (.int _) .nil))
  have hso : PySem.W.Sortable ((l.map (·.1)).map (Dat.toD (α := Int × Int))) := by
    rcases Ordd.so (α := Int × Int) with h | h
    · exact PySem.W.Sortable.tuples h
    · exact PySem.W.Sortable.others h
  have hun : ∀ b : Int × Int, b ∈ l.map (·.1) → X.A.in1.units + 1 + (Dat.toD b).depth < cLine := fun b _ => by
    have := Dat.dep b
    have hd : Dat.deep (Int × Int) ≤ 32 := by decide
    show X.A.units + 1 + 1 + _ < _
    omega
  have er : PySem.W.EachIs (fun v b => ∃ as, Reads (h'.push (seqObj "list" acc.toList.toArray 0)) v (Dat.toD b) as ∧ h'.objs.size ∉ as) acc.toList (l.map (·.1)) := each_imp e1 fun v b ⟨x, hx, f⟩ => by
    obtain ⟨as, rd⟩ := Dp.reads I1 _ _ _ (hF _ _ f) hx
    have := reads_pair rd
    subst this
    exact ⟨[], PySem.W.reads_keeps (fun _ _ e => Heap.get?_push_of_some _ e) rd, by simp⟩
  refine wpAny_bind (wpAny_newList ?_ (by rw [hlen]; exact z))
  have hoL : (h'.push (seqObj "list" acc.toList.toArray 0)).get? h'.objs.size = some (seqObj "list" acc.toList.toArray 0) := Heap.get?_push_size _ rfl
  show wpAny _ _ _ _ _ { s with heap := h'.push (seqObj "list" acc.toList.toArray 0), toks := tk }
  refine wpAny_bind (wpAny_holding (PySem.W.list_sort_data (s := { s with heap := h'.push (seqObj "list" acc.toList.toArray 0), toks := tk }) (enc := Dat.toD) (bs := l.map (·.1)) hoL e1 er (PySem.W.AllAlike.of Ordd.ak) hso (by rw [List.length_map]; exact z) hun fun out hlo eo => ?_))
  · rw [PySem.W.dataLe_eq] at eo
    simp only [cond_false, Ordd.lt_eq] at eo
    obtain ⟨ys, hy, hp2⟩ := each_to eo
    obtain ⟨e', he'⟩ := PyProof.Rows.sortedHeap_at (vs := acc.toList) (out := out.toArray) hoL
    have hlen2 : ys.length ≤ sizeLine := by
      have := plen hp2
      rw [List.length_mergeSort, List.length_map] at this
      omega
    refine wpAny_pure ⟨_, rfl, .ref h'.objs.size, upd H h'.objs.size (.lst ys), I1.laid (t' := tk) (fun b u e => ?_) (Nat.le_refl _)
      (show ObjOk X.prog X.w _ _ _ (.lst ys) from ⟨hlen2, out, e', hy, he'⟩), rfl, q ys _ hp2 (I1.hok.fresh (Nat.le_refl _))⟩
    have hb : b < h'.objs.size := Heap.lt_size e
    rw [PyProof.Rows.sortedHeap_old (Nat.ne_of_lt hb) (by rw [size_push']; exact Nat.lt_succ_of_lt hb)]
    exact Heap.get?_push_of_some _ e
/-- tuples are settled late -/
theorem setFK {K : PySem.W.Frag} : ∀ {ys : List V} {l : List (Int × Int)} (W : Wd), Paired (FK W.h) ys l → ∃ W' : Wd, W.Le W' ∧ W'.h = W.h ∧ Paired (fun v x => rel K W'.s v x) ys l
  | _, _, W, .nil => ⟨W, .refl W, rfl, .nil⟩
  | _, _, W, .cons ⟨b, e, hb⟩ t => by
    obtain ⟨W1, l1, e1, s1⟩ := W.setT hb
    obtain ⟨W2, l2, e2, r2⟩ := setFK (K := K) W1 (by rw [e1]; exact t)
    exact ⟨W2, l1.trans l2, e2.trans e1, .cons ⟨b, _, _, e, l2.s _ _ s1, rfl, rfl⟩ r2⟩
def osortU {δ : Type} (o : Option (Du (Int × Int) δ)) : Option (List (Int × Int)) := o.bind fun d => some ((d.kvs.map (·.1)).mergeSort fun x y => !Ordd.lt y x)
theorem ep_sortedD {o : Option (Du (Int × Int) δ)} {p1 : Pos} (hc : X.calm = true) (hr : X.A.units + 64 < cLine) (hg : Gl X "sorted") (hm : X.mg "sorted" = none) (ha : Ep X ρ a o) (hst : NS X a := by intro _; rfl) : EpF X ρ (.Call (.Name "sorted" p1) [a] [] pos) (osortU o) := .mk fun z hz We B σ W Q S k => by
  obtain ⟨l, hl, hz⟩ := bind_some hz
  cases hz
  refine useE (pe_callB (call_sortedDP hc hr) hg hm boot_sorted (pa_cons pe_run pa_nil (hst _)) (he := hst _)) (ha.run l hl We B σ W _ S fun v W1 l1 ⟨p, ws, e1, e2, r1⟩ => ?_)
  have ek : ws.map (·.1) = l.kvs.map (·.1) := by
    have : ∀ {ws : List ((Int × Int) × V)} {k : List ((Int × Int) × δ)}, DP X.K W1.s ws k → ws.map (·.1) = k.map (·.1) := fun {ws k} h => by
      induction h with
      | nil => rfl
      | cons h _ ih => rw [List.map_cons, List.map_cons, h.1, ih]
    exact this r1
  refine ⟨p, ws, by rw [e1], .inl (W1.e _ _ e2), fun ys n hy hn => ?_⟩
  rw [ek] at hy
  have l2 := Wd.Le.new W1 (.lst ys) hn
  obtain ⟨W3, l3, e3, r3⟩ := setFK (K := X.K) (W1.new n (.lst ys) hn) (pmono (fun v x ⟨b, eb, hb⟩ => ⟨b, eb, Ex.new hn _ _ hb⟩) hy)
  have := k n ys W3 ((l1.trans l2).trans l3) (l1.h.back (fre_of hn)) (l3.s _ _ upd_same) r3
  rw [e3] at this
  exact this
/-! ### sorted(set(xs)), xs a list of triples -/
theorem perm_eqS {α : Type} {le : α → α → Prop} (anti : ∀ a b, le a b → le b a → a = b) : ∀ {l m : List α}, l.Perm m → l.Pairwise le → m.Pairwise le → l = m
  | [], m, h, _, _ => h.nil_eq
  | a :: l, [], h, _, _ => by simpa using h.length_eq
  | a :: l, b :: m, h, h1, h2 => by
    have hab : a = b := by
      have ha : a ∈ b :: m := h.mem_iff.mp (by simp)
      have hb : b ∈ a :: l := h.mem_iff.mpr (by simp)
      rcases List.mem_cons.mp ha with e | ha
      · exact e
      · rcases List.mem_cons.mp hb with e | hb
        · exact e.symm
        · exact anti a b ((List.pairwise_cons.mp h1).1 b hb) ((List.pairwise_cons.mp h2).1 a ha)
    subst hab
    rw [perm_eqS anti ((List.perm_cons a).mp h) (List.pairwise_cons.mp h1).2 (List.pairwise_cons.mp h2).2]
theorem chooseL {α β : Type} {R : α → β → Prop} : ∀ {l : List α}, (∀ q ∈ l, ∃ a, R q a) → ∃ zs, Paired R l zs
  | [], _ => ⟨[], .nil⟩
  | q :: r, h => by
    obtain ⟨a, ha⟩ := h q (by simp)
    obtain ⟨zs, hz⟩ := chooseL (l := r) fun x hx => h x (List.mem_cons_of_mem _ hx)
    exact ⟨a :: zs, .cons ha hz⟩
theorem pmem {α β : Type} {R : α → β → Prop} : ∀ {l : List α} {m : List β}, Paired R l m → ∀ b ∈ m, ∃ a ∈ l, R a b
  | _, _, .nil, b, h => nomatch h
  | _, _, .cons r t, b, h => by
    rcases List.mem_cons.mp h with e | h
    · exact ⟨_, List.mem_cons_self .., by rw [e]; exact r⟩
    · obtain ⟨a, h1, h2⟩ := pmem t b h
      exact ⟨a, List.mem_cons_of_mem _ h1, h2⟩
theorem ppw {α β : Type} {R : α → β → Prop} {P : α → α → Prop} {T : β → β → Prop} (f : ∀ q r a b, R q a → R r b → P q r → T a b) : ∀ {l : List α} {m : List β}, Paired R l m → l.Pairwise P → m.Pairwise T
  | _, _, .nil, _ => .nil
  | _, _, .cons r t, h => by
    have h := List.pairwise_cons.mp h
    refine List.pairwise_cons.mpr ⟨fun b hb => ?_, ppw f t h.2⟩
    obtain ⟨q, hq, rq⟩ := pmem t b hb
    exact f _ _ _ _ r rq (h.1 q hq)
theorem pmapL {α α' β : Type} {R : α' → β → Prop} {g : α → α'} : ∀ {l : List α} {m : List β}, Paired (fun a b => R (g a) b) l m → Paired R (l.map g) m
  | _, _, .nil => .nil
  | _, _, .cons r t => .cons r (pmapL t)
def inS (t : Tri) : Bool := decide (0 ≤ t.a) && decide (t.a < 64) && decide (0 ≤ t.b) && decide (t.b < 64) && decide (0 ≤ t.c) && decide (t.c < 64)
theorem inS_iff {t : Tri} : inS t = true ↔ (0 ≤ t.a ∧ t.a < 64) ∧ (0 ≤ t.b ∧ t.b < 64) ∧ 0 ≤ t.c ∧ t.c < 64 := by
  unfold inS
  simp only [Bool.and_eq_true, decide_eq_true_eq]
  omega
def osortS (o : Option (List Tri)) : Option (List Tri) := o.bind fun l => if (decide (l.length < 64) && l.all inS) = true then some ((dd l).mergeSort fun x y => !Ordd.lt y x) else none
def leS (x y : Tri) : Prop := x.a < y.a ∨ (x.a = y.a ∧ (x.b < y.b ∨ (x.b = y.b ∧ x.c ≤ y.c)))
theorem leS_lt (x y : Tri) : (!Ordd.lt y x) = true ↔ leS x y := by
  have : Ordd.lt y x = true ↔ ¬ leS x y := by
    show decide _ = true ↔ _
    rw [decide_eq_true_eq]
    unfold leS
    omega
  rw [Bool.not_eq_true', ← Bool.not_eq_true, this]
  exact Classical.not_not
theorem leS_anti (x y : Tri) (h : leS x y) (k : leS y x) : x = y := by
  unfold leS at h k
  cases x
  cases y
  simp only [Tri.mk.injEq]
  dsimp only at h k
  omega
theorem code_tri (t : Tri) : TS.code 64 [t.a, t.b, t.c] = t.a * 4096 + (t.b * 64 + t.c) := by
  simp [TS.code]
theorem leS_code {x y : Tri} (hx : inS x = true) (hy : inS y = true) (h : TS.code 64 [x.a, x.b, x.c] ≤ TS.code 64 [y.a, y.b, y.c]) : leS x y := by
  rw [code_tri, code_tri] at h
  rw [inS_iff] at hx hy
  unfold leS
  omega
theorem ep_sortset {o : Option (List Tri)} {p1 p2 p3 : Pos} (hc : X.calm = true) (hu : X.A.units + 64 < cLine) (hg : Gl X "sorted") (hm : X.mg "sorted" = none) (hg2 : Gl X "set") (hm2 : X.mg "set" = none) (ha : Lp X ρ a o) (na : NS X a := by intro _; rfl) :
    EpF X ρ (.Call (.Name "sorted" p1) [.Call (.Name "set" p2) [a] [] p3] [] pos) (osortS o) := .mk fun z hz We B σ W Q S k => by
  obtain ⟨l, hl, hz⟩ := bind_some hz
  split at hz
  · rename_i hsz
    cases hz
    rw [Bool.and_eq_true, decide_eq_true_eq, List.all_eq_true] at hsz
    obtain ⟨hsz, hin⟩ := hsz
    refine useE (pe_callB (cr_sortedT hc) hg hm boot_sorted (pa_cons (pe_callTy (cr_setOfT hc hu) hg2 hm2 PyProof.Rows.boot_set (pa_cons pe_run pa_nil (na _)) (he := na _)) pa_nil rfl)) ?_
    refine ha.run l hl We B σ W _ S fun p vs W1 l1 hp r1 => ?_
    obtain ⟨ks, e1, e2, h3, h4⟩ := itups r1
    subst e1
    have hlen : ks.length = l.length := by have := congrArg List.length e2; simpa using this
    have h3' : ∀ q ∈ ks, SqT X.K W1.h q.1 (q.2.map V.int) := fun q hq => Evl.ex_t W1.e (h3 q hq)
    refine ⟨p, ks, rfl, .of hp, h3', by omega, fun b L hb sub all => ⟨b, L, 3, 64, rfl, upd_same, fun q hq => Evl.ex_t (Ex.new hb) (h3' q (sub q hq)), by decide, fun q hq => ?_, fun L' n pm nd hl' pw hn => ?_⟩⟩
    · obtain ⟨t, ht, e, _⟩ := h4 q (sub q hq)
      have := inS_iff.mp (hin t ht)
      rw [e]
      refine ⟨rfl, fun m hm => ?_⟩
      have hm : m ∈ [t.a, t.b, t.c] := hm
      simp only [List.mem_cons, List.not_mem_nil, or_false] at hm
      omega
    · obtain ⟨zs, hz⟩ := chooseL (R := fun (q : Addr × List Int) (t : Tri) => t ∈ l ∧ q.2 = ITup.ns t ∧ rel X.K W1.s (.ref q.1) t) (l := L') fun q hq => by
        obtain ⟨t, h1, h2, h3⟩ := h4 q (sub q (pm.mem_iff.mp hq))
        exact ⟨t, h1, h2, h3⟩
      have ez : zs.map ITup.ns = L'.map (·.2) := by
        have : ∀ {L : List (Addr × List Int)} {zs : List Tri}, Paired (fun (q : Addr × List Int) (t : Tri) => t ∈ l ∧ q.2 = ITup.ns t ∧ rel X.K W1.s (.ref q.1) t) L zs → zs.map ITup.ns = L.map (·.2) := fun {L zs} h => by
          induction h with
          | nil => rfl
          | cons h _ ih => rw [List.map_cons, List.map_cons, ih, h.2.1]
        exact this hz
      have nz : zs.Nodup := by
        rw [← ez] at nd
        exact List.Pairwise.of_map _ (fun a b h e => h (by rw [e])) nd
      obtain ⟨nl, ml⟩ := dd_mem l
      have pz : zs.Perm (dd l) := (List.perm_ext_iff_of_nodup nz nl).mpr fun x => by
        rw [ml]
        constructor
        · intro hx
          obtain ⟨q, _, h, _⟩ := pmem hz x hx
          exact h
        · intro hx
          have h1 : ITup.ns x ∈ ks.map (·.2) := by rw [e2]; exact List.mem_map.mpr ⟨x, hx, rfl⟩
          obtain ⟨q, hq, eq⟩ := List.mem_map.mp h1
          obtain ⟨q', hq', eq'⟩ := List.mem_map.mp (all q hq)
          have h2 : ITup.ns x ∈ zs.map ITup.ns := by
            rw [ez]
            exact List.mem_map.mpr ⟨q', pm.mem_iff.mpr hq', by rw [eq', eq]⟩
          obtain ⟨y, hy, ey⟩ := List.mem_map.mp h2
          rw [← ITup.inj _ _ ey]
          exact hy
      have sz : zs.Pairwise leS := ppw (fun q r x y ⟨h1, h2, _⟩ ⟨k1, k2, _⟩ h => by
        rw [h2, k2] at h
        exact leS_code (hin x h1) (hin y k1) h) hz pw
      have sm : ((dd l).mergeSort fun x y => !Ordd.lt y x).Pairwise leS := by
        have := List.pairwise_mergeSort (le := fun x y : Tri => !Ordd.lt y x) (fun x y z h1 h2 => by
          rw [leS_lt] at *
          unfold leS at *
          omega) (fun x y => by
          rw [Bool.or_eq_true, leS_lt, leS_lt]
          unfold leS
          omega) (dd l)
        exact this.imp fun h => (leS_lt _ _).mp h
      have ee : zs = (dd l).mergeSort fun x y => !Ordd.lt y x := perm_eqS leS_anti (pz.trans (List.mergeSort_perm _ _).symm) sz sm
      have l2 := Wd.Le.new W1 (SetTO X.prog X.w b L) hb
      have l3 := Wd.Le.new (W1.new b (SetTO X.prog X.w b L) hb) (.lst (L'.map fun q => V.ref q.1)) hn
      refine k n _ (Wd.new (W1.new b (SetTO X.prog X.w b L) hb) n (.lst (L'.map fun q => V.ref q.1)) hn) ((l1.trans l2).trans l3) ((l1.trans l2).h.back (fre_of hn)) upd_same ?_
      rw [← ee]
      exact pmapL (pmono (fun q t h => Rep.mono (l2.trans l3).s h.2.2) hz)
  · cases hz
/-! ### a def that changes a dict handed to it -/
/-- .. without one object -/
def Wd.wo (W : Wd) (l : Addr) (n : W.s l = none) (pl : ∀ o, W.h l = some o → isPl o = true) : Wd := ⟨W.s, unS W.h l, fun p o h => by
  show (if p = l then none else W.h p) = some o
  rw [if_neg (fun z => by subst z; rw [n] at h; cases h)]
  exact W.e p o h, W.nt, tabs_ex W.tb fun p o h no => by
  show (if p = l then none else W.h p) = some o
  rw [if_neg (fun z => by subst z; rw [pl o h] at no; cases no)]
  exact h⟩
theorem Wd.wo_le (W : Wd) {l : Addr} (n : W.s l = none) (pl : ∀ o, W.h l = some o → isPl o = true) : (W.wo l n pl).Le W :=
  ⟨Ex.refl _, fun p o h _ => unS_some h, fun p o _ _ h => h⟩
/-- what such a def hands back -/
structure RetM (β κ δ : Type) where
  r : β
  d : List (κ × δ)
@[reducible] def repM (l : Addr) : Rep (RetM β κ δ) := ⟨fun K H v m => rel K H v m.r ∧ rel K H (.ref l) (Du.mk m.d), fun e ⟨h1, h2⟩ => ⟨Rep.mono e h1, Rep.mono e h2⟩⟩
theorem bs_retMD {l0 : Addr} {o : Option β} {m : MA (some l0) κ δ} (j : Nat) (h : Ep X ρ e o) (hj : ρ[j]? = some (.mut m) := by rfl) : @Bs _ X xx ρ (.Return (some e) pos :: rest) (RetM β κ δ) γ (repM l0) false (o.bind fun x => some (.ret ⟨x, m.kvs⟩)) post := @Bs.mk _ X xx ρ _ (RetM β κ δ) γ (repM l0) false _ post fun out ho We B σ W D S k => by
  obtain ⟨x, hx, hf⟩ := bind_some ho
  cases hf
  refine useSs (pss_cons (ps_ret pe_run) pss_run) (h.run x hx We B σ W _ S fun v W1 l1 r1 => ?_)
  have S1 := S.mono l1
  obtain ⟨l, ob, e1, n1, n2, hh, al, ws, rfl, r⟩ := S1.at_ j _ hj
  have el : l = l0 := al l0 rfl
  subst el
  have ho : isTb (DKy.ob ws) = false := tb_of_pl (DKy.pl ws)
  have ex : Ex W1.s (upd W1.s l (DKy.ob ws)) := Ex.new n2
  have S3 := S1.lend (a := Du.mk m.kvs) hj e1 n1 n2 hh ho ⟨l, ws, rfl, upd_same, r.mono ex⟩
  exact k v (W1.settle l _ hh ho) S3.le S3.b ⟨Rep.mono ex r1, l, ws, rfl, upd_same, r.mono ex⟩ (fun z => by cases z)
/-- the promise: the first argument a dict, changed -/
def spM (K : PySem.W.Frag) {α : Type} [Rep α] (m : List (κ × δ) → α → Option (β × List (κ × δ))) : Sp := fun vs H Q _ =>
  ∃ (W : Wd) (l : Addr) (v2 : V) (ws : List (κ × V)) (d : List (κ × δ)) (x : α) (r : β × List (κ × δ)) (n : W.s l = none) (hh : W.h l = some (DKy.ob ws)), H = W.h ∧ vs = [.ref l, v2] ∧ DP K W.s ws d ∧ rel K W.s v2 x ∧ m d x = some r ∧
    ∀ v W', (W.wo l n fun o e => by rw [hh] at e; cases e; exact DKy.pl ws).Le W' → rel K W'.s v r.1 → rel K W'.s (.ref l) (Du.mk r.2) → Q v W'.h
end
def retM {β κ δ γ : Type} (o : Option (Out (RetM β κ δ) γ)) : Option (β × List (κ × δ)) := match o with
  | some (.ret b) => some (b.r, b.d)
  | _ => none
section
variable {P : Program} {w : World} {K : PySem.W.Frag} {mg : Str → Option Value} {base : Heap} {name qual : Str} {params : Arguments} {body : List Stmt} {scope : Scope} {f : Addr} {fd : FuncData} {N ps : List Str} {k : Nat}
variable {α β κ δ : Type} [Rep α] [Rep β] [DecidableEq κ] [Rep κ] [DKy κ] [Rep δ]
theorem fn_okM {γ : Type} {post : γ → List SV} {m : List (κ × δ) → α → Option (Out (RetM β κ δ) γ)} (F : FunD K name qual params body scope [] [] f fd) (S : FnScope N ps scope) (hl : ps.length ≤ N.length) (h1 : ps.length = 2)
    (h : ∀ (cdv : Value) (A : Around) (outer : List Env) (s : Shared) (H : Hp) (E : XK), Room k (A.deeper (envOfC qual scope s.heap.objs.size f cdv)) → ∀ (l : Addr) (d : List (κ × δ)) (x : α),
      @Bs _ (cx0 P w K mg base N qual scope f cdv A outer s H E) noX ([.mut (MA.mk (l0 := some l) d), .imm x] ++ List.replicate (N.length - 2) .any) body (RetM β κ δ) γ (repM l) false (m d x) post) :
    FnOk P w K mg base CX0 (k + 1) f fd ps (spM K fun d x => retM (m d x)) := by
  refine F.ok S (fun vs H Q E ⟨W, l, v2, ws, d, x, r, n, hh, _, e, _⟩ => by rw [e, h1]; rfl) (fun cdv A outer s H vs Q E hr ⟨W, l, v2, ws, d, x, r, n, hh, eh, ev, rd, rx, hm, q⟩ => ?_)
  subst eh
  subst ev
  have hb := h cdv A outer s W.h E hr l d x
  refine ⟨RunSs (cx0 P w K mg base N qual scope f cdv A outer s W.h E) body, PSs.nox pss_run, ?_⟩
  dsimp only at hm
  unfold retM at hm
  split at hm
  · rename_i b hmm
    cases hm
    have pl : ∀ o, W.h l = some o → isPl o = true := fun o e => by rw [hh] at e; cases e; exact DKy.pl ws
    refine @Bs.run _ _ _ _ _ (RetM β κ δ) γ (repM l) _ _ _ hb (.ret b) hmm (W.wo l n pl) W.s (L2.start N [.ref l, v2]) W _ ?_ ?_
    · have hl2 : (2 : Nat) ≤ N.length := by rw [← h1]; exact hl
      unfold L2.start
      refine ⟨W.wo_le n pl, Ex.refl _, by simp, fun i y hy => ?_, fun i j y z a hij hi hj mi mj _ _ => ?_⟩
      · match i with
        | 0 =>
          simp at hy
          subst hy
          exact ⟨l, DKy.ob ws, rfl, fre_of (if_pos rfl), n, hh, fun a e => Option.some.inj e, ws, rfl, rd⟩
        | 1 =>
          simp at hy
          subst hy
          exact ⟨v2, rfl, rx⟩
        | i + 2 =>
          have hy : (List.replicate (N.length - 2) SV.any)[i]? = some y := hy
          rw [List.getElem?_replicate] at hy
          split at hy
          · cases hy
            trivial
          · cases hy
      · have only : ∀ {i : Nat} {y : SV}, ([SV.mut (MA.mk (l0 := some l) d), SV.imm x] ++ List.replicate (N.length - 2) SV.any)[i]? = some y → y.isMut → i = 0 := fun {i y} hy my => by
          match i with
          | 0 => rfl
          | 1 =>
            simp at hy
            subst hy
            exact my.elim
          | i + 2 =>
            have hy : (List.replicate (N.length - 2) SV.any)[i]? = some y := hy
            rw [List.getElem?_replicate] at hy
            split at hy
            · cases hy
              exact my.elim
            · cases hy
        exact hij ((only hi mi).trans (only hj mj).symm)
    · exact fun v W' le _ rr hf => q v W' le rr.1 rr.2
  · cases hm
end
section
variable {X : Cx} {xx : Nat → Hp → Prop} {ρ : List SV} {rest : List Stmt} {e a b : Expr} {pos : Pos}
variable {α β β' γ κ δ : Type} [Rep β'] [Rep α] [NoD β] [DecidableEq κ] [Rep κ] [DKy κ] [NoD δ] [DKd κ] {fr : Bool} {post : γ → List SV}
def unp2 {α β γ : Type} (o : Option (α × β)) (f : α → β → Option γ) : Option γ := o.bind fun z => f z.1 z.2
/-- x = f(d, a), f changes d -/
theorem bs_callM {l0 : Option Addr} {d : MA l0 κ δ} {m : List (κ × δ) → α → Option (β × List (κ × δ))} {k : Nat} {f : Addr} {fd : FuncData} {ps : List Str} {x y z : Str} {p1 p2 p3 p4 : Pos} {o : Option α} {g : β → List (κ × δ) → Option (Out β' γ)} (i j : Nat) (nd : X.N.Nodup)
    (F : FnOk X.prog X.w X.K X.mg X.base CX0 k f fd ps (spM X.K m)) (hr : Room k X.A) (hg : Gl X z) (hm : X.mg z = some (.ref f)) (hk : PySem.W.keepIn X.K (.ref f) = true) (hb : Binds X.K fd ps [])
    (ha : Ep X ρ a o) (hre : ∀ r d', Bs X xx ((ρ.set j (.mut (MA.mk (l0 := l0) d'))).set i (.imm r)) rest fr (g r d') post) (hij : i ≠ j := by decide) (hρ : ρ[j]? = some (.mut d) := by rfl) (hN : X.N[j]? = some x := by rfl)
    (hv : Vis X.env.scope x := by first | exact Or.inl rfl | exact Or.inr (Or.inl rfl) | exact Or.inr (Or.inr rfl)) (hd : (x == ("__debug__" : Str)) = false := by decide) (hcd : (x == ("__classdict__" : Str)) = false := by decide)
    (hdz : (z == ("__debug__" : Str)) = false := by decide) (hst : NS X a := by intro _; rfl) (hpl : (backTo p3 (starEach [a] X.env)).any (·.1) = false := by rfl)
    (hi : X.N[i]? = some y := by rfl) (hx : Loc X.env.scope y := by first | exact Or.inl rfl | exact Or.inr rfl) (hs : swapsWith (.Call (.Name z p1) [.Name x p2, a] [] p3) (some (.Name y p4)) pos.line X.env = pure false := by rfl)
    (hf : X.fn y = true ∨ X.env.scope.names.lookup y = some .local := by first | exact .inl rfl | exact .inr rfl) :
    Bs X xx ρ (.Assign [.Name y p4] (.Call (.Name z p1) [.Name x p2, a] [] p3) pos :: rest) fr (unp2 (o.bind (m d.kvs)) g) post := .mk fun out ho We B σ W D S k' => by
  obtain ⟨r, hmr, ho⟩ := bind_some ho
  obtain ⟨u, hu, hmr⟩ := bind_some hmr
  obtain ⟨l, ob, e1, n1, n2, hh, al, ws, rfl, rd⟩ := S.at_ j _ hρ
  refine useSs (pss_cons (ps_set nd hi hx (pe_call F hr hg hm hk hb .nil (E := E0) pass0 (pa_cons (pe_var hN hv hd hcd) (pa_cons pe_run pa_nil (hst _)) (by rfl)) hdz (by rfl) hpl) hs hf) pss_run) ?_
  refine ⟨_, e1, ha.run u hu We B σ W _ S fun v W1 l1 r1 => ?_⟩
  have S1 := S.mono l1
  obtain ⟨l', ob', e1', n1', n2', hh', al', ws', rfl, rd'⟩ := S1.at_ j _ hρ
  rw [e1] at e1'
  cases e1'
  refine ⟨W1, l, v, ws', d.kvs, u, r, n2', hh', rfl, rfl, rd', r1, hmr, fun v' W2 le rv rdu => ?_⟩
  obtain ⟨p, ws2, ep, hp2, rd2⟩ := rdu
  cases ep
  have keep := unset_keep hp2 (DKd.dc ws2)
  have ne_s : ∀ {p : Addr} {o : HO}, W1.s p = some o → p ≠ l := fun {p o} h z => by subst z; rw [n2'] at h; cases h
  have exs : Ex W1.s (W2.unset l).s := fun p o h => by
    show (if p = l then none else W2.s p) = some o
    rw [if_neg (ne_s h)]
    exact le.s p o h
  have woh : ∀ {p : Addr}, p ≠ l → unS W1.h l p = W1.h p := fun {p} h => if_neg h
  have hpW2 : ∀ {p : Addr} {o : HO}, p ≠ l → W1.h p = some o → isTb o = false → W2.h p = some o := fun {p o} h1 h2 h3 => le.h p o (by show unS W1.h l p = _; rw [woh h1]; exact h2) h3
  have hpS : ∀ {p : Addr} {o : HO}, p ≠ l → W1.h p = some o → isPl o = true → W1.s p = none → (W2.unset l).s p = none := fun {p o} h1 h2 h3 h4 => by
    show (if p = l then none else W2.s p) = none
    rw [if_neg h1]
    exact le.f p o (by show unS W1.h l p = _; rw [woh h1]; exact h2) h3 h4
  have ne_e : ∀ {p : Addr} {o : HO}, We.h p = some o → isTb o = false → p ≠ l := fun {p o} h h2 z => by subst z; exact fre_no n1 h h2
  have S2 : SR X.K We B (ρ.set j (.mut (MA.mk (l0 := l0) r.2))) σ (W2.unset l) := by
    have hj : j < ρ.length := (List.getElem?_eq_some_iff.mp hρ).1
    refine ⟨⟨S1.le.s.trans exs, fun p o h h2 => hpW2 (ne_e h h2) (S1.le.h p o h h2) h2, fun p o h h2 h3 => hpS (ne_e h (tb_of_pl h2)) (S1.le.h p o h (tb_of_pl h2)) h2 (S1.le.f p o h h2 h3)⟩, S1.b.trans exs, by rw [List.length_set]; exact S.len, fun q y hq => ?_, fun q q' y z' a hqq hq hq' mq mq' eq eq' => ?_⟩
    · rcases get_set_cases hq with ⟨rfl, rfl, _⟩ | ⟨hne, h2⟩
      · exact ⟨l, _, e1, n1, if_pos rfl, W2.e _ _ hp2, al, ws2, rfl, pmono (fun _ _ ⟨a, b⟩ => ⟨a, NoD.minusD keep b⟩) rd2⟩
      · have s0 := S1.at_ q y h2
        match y, s0 with
        | .any, _ => trivial
        | @SV.imm _ ii a, ⟨v, e, rr⟩ => exact ⟨v, e, ii.mono exs rr⟩
        | @SV.mut _ ii a, ⟨l2, ob2, e, n, s, hh2, rr⟩ =>
          have hl2 : l2 ≠ l := fun z => by
            subst z
            exact S.sep q j _ _ l2 hne h2 hρ trivial trivial e e1
          exact ⟨l2, ob2, e, n, hpS hl2 hh2 (ii.nt rr) s, hpW2 hl2 hh2 (tb_of_pl (ii.nt rr)), ii.mono exs rr⟩
    · have key : ∀ {q : Nat} {y : SV}, (ρ.set j (.mut (MA.mk (l0 := l0) r.2)))[q]? = some y → y.isMut → ∃ y', ρ[q]? = some y' ∧ y'.isMut := fun {q y} hq mq => by
        rcases get_set_cases hq with ⟨rfl, rfl, _⟩ | ⟨_, h2⟩
        · exact ⟨_, hρ, trivial⟩
        · exact ⟨y, h2, mq⟩
      obtain ⟨y1, hy1, my1⟩ := key hq mq
      obtain ⟨y2, hy2, my2⟩ := key hq' mq'
      exact S.sep q q' y1 y2 a hqq hy1 hy2 my1 my2 eq eq'
  have S3 := S2.set (i := i) (.refl _) (NoD.minusD keep rv)
  exact (hre r.1 r.2).run out ho We B _ (W2.unset l) D S3 k'
/-- x = d.pop(k) -/
theorem bs_asgPop {δ : Type} [Rep δ] {l0 : Option Addr} {m : MA l0 (Int × Int) δ} {ok : Option (Int × Int)} {f : δ → List ((Int × Int) × δ) → Option (Out β' γ)} {ke : Expr} {x y : Str} {p0 p1 p2 p3 : Pos} (i j : Nat) (nd : X.N.Nodup) (hu : X.A.units + 1 < cLine) (hk : Ep X ρ ke ok)
    (hre : ∀ r d', Bs X xx ((ρ.set j (.mut (MA.mk (l0 := l0) d'))).set i (.imm r)) rest fr (f r d') post) (hρ : ρ[j]? = some (.mut m) := by rfl) (hN : X.N[j]? = some x := by rfl)
    (hvi : Vis X.env.scope x := by first | exact Or.inl rfl | exact Or.inr (Or.inl rfl) | exact Or.inr (Or.inr rfl)) (hd : (x == ("__debug__" : Str)) = false := by decide) (hcd : (x == ("__classdict__" : Str)) = false := by decide)
    (hst : NS X ke := by intro _; rfl) (hbase : attributeBase (.Name x p0) "pop" X.env (eval (.Name x p0) X.env) = eval (.Name x p0) X.env := by rfl)
    (hfew : ((backTo p2 (starEach [ke] X.env)).all (fun x => !x.1) && (backToKw p2 (keywordEach [] X.env)).all (fun x => x.1.isSome)
      && decide ([ke].length + ([] : List Keyword).length + (if ([] : List Keyword).isEmpty then 0 else 1) < 30)) = true := by rfl) (hline : (p1.endLine == p2.line) = true := by rfl)
    (hi : X.N[i]? = some y := by rfl) (hx : Loc X.env.scope y := by first | exact Or.inl rfl | exact Or.inr rfl) (hs : swapsWith (.Call (.Attribute (.Name x p0) "pop" p1) [ke] [] p2) (some (.Name y p3)) pos.line X.env = pure false := by rfl)
    (hf : X.fn y = true ∨ X.env.scope.names.lookup y = some .local := by first | exact .inl rfl | exact .inr rfl) :
    Bs X xx ρ (.Assign [.Name y p3] (.Call (.Attribute (.Name x p0) "pop" p1) [ke] [] p2) pos :: rest) fr (unp2 (odpop m ok) f) post := .mk fun out ho We B σ W D S k => by
  obtain ⟨z, hz, ho⟩ := bind_some ho
  refine useSs (pss_cons (ps_set nd hi hx pe_run hs hf) pss_run) (run_dpop j hu hk hρ hN hvi hd hcd hst hbase hfew hline hz We B σ W _ S fun v W1 S1 r1 => ?_)
  exact (hre z.1 z.2).run out ho We B _ W1 D (S1.set (.refl W1) r1) k
theorem bs_hasM {l0 : Option Addr} {d : MA l0 κ δ} {m : List (κ × δ) → α → Option (β × List (κ × δ))} {k k2 : Nat} {ps : List Str} {x y z : Str} {p1 p2 p3 p4 : Pos} {o : Option α} {g : β → List (κ × δ) → Option (Out β' γ)} (i j : Nat) (nd : X.N.Nodup)
    (F : Has X.prog X.w X.K X.mg X.base k z ps (spM X.K m)) (hr : Room k2 X.A) (hk : k ≤ k2)
    (ha : Ep X ρ a o) (hre : ∀ r d', Bs X xx ((ρ.set j (.mut (MA.mk (l0 := l0) d'))).set i (.imm r)) rest fr (g r d') post) (hg : Gl X z := by rfl) (hij : i ≠ j := by decide) (hρ : ρ[j]? = some (.mut d) := by rfl) (hN : X.N[j]? = some x := by rfl)
    (hv : Vis X.env.scope x := by first | exact Or.inl rfl | exact Or.inr (Or.inl rfl) | exact Or.inr (Or.inr rfl)) (hd : (x == ("__debug__" : Str)) = false := by decide) (hcd : (x == ("__classdict__" : Str)) = false := by decide)
    (hdz : (z == ("__debug__" : Str)) = false := by decide) (hst : NS X a := by intro _; rfl) (hpl : (backTo p3 (starEach [a] X.env)).any (·.1) = false := by rfl)
    (hi : X.N[i]? = some y := by rfl) (hx : Loc X.env.scope y := by first | exact Or.inl rfl | exact Or.inr rfl) (hs : swapsWith (.Call (.Name z p1) [.Name x p2, a] [] p3) (some (.Name y p4)) pos.line X.env = pure false := by rfl)
    (hf : X.fn y = true ∨ X.env.scope.names.lookup y = some .local := by first | exact .inl rfl | exact .inr rfl) :
    Bs X xx ρ (.Assign [.Name y p4] (.Call (.Name z p1) [.Name x p2, a] [] p3) pos :: rest) fr (unp2 (o.bind (m d.kvs)) g) post := by
  obtain ⟨f, fd, Ff, hm, hkp, hb⟩ := F
  exact bs_callM i j nd Ff (hr.mono hk) hg hm hkp hb ha hre hij hρ hN hv hd hcd hdz hst hpl hi hx hs hf
theorem ep_hasD {es : List Expr} {C : List SV → Du κ δ → Prop} {k k' : Nat} {ps : List Str} {x : Str} {p1 : Pos} {o : Option (List SV)} {ob : Option (Du κ δ)}
    (F : Has X.prog X.w X.K X.mg X.base k x ps (spOf X.K true C)) (hr : Room k' X.A) (hk : k ≤ k') (ha : Ag X ρ (a :: es) o) (hC : ∀ r, ob = some r → ∃ l, o = some l ∧ C l r) (hg : Gl X x := by rfl) (hst : NS X a := by intro _; rfl) (hd : (x == ("__debug__" : Str)) = false := by decide)
    (hpl : (backTo pos (starEach es X.env)).any (·.1) = false := by rfl) : EpD X ρ (.Call (.Name x p1) (a :: es) [] pos) ob := .mk fun r hr' We B σ W Q S q => by
  obtain ⟨f, fd, Ff, hm, hkp, hb⟩ := F
  obtain ⟨l, hl, hc⟩ := hC r hr'
  refine run_call Ff (hr.mono hk) hg hm hkp hb ha hst hd hpl hl hc S fun v W' le ⟨p, ws, e1, e2, r2⟩ hf => ?_
  obtain ⟨p', e3, e4⟩ := hf rfl
  rw [e1] at e3
  cases e3
  subst e1
  exact q p ws W' le e4 e2 r2
def dkv {κ δ : Type} (o : Option (Du κ δ)) : Option (List (κ × δ)) := o.bind fun d => some d.kvs
theorem bs_asgDk {β' : Type} [Rep β'] {o : Option (Du κ δ)} {f : List (κ × δ) → Option (Out β' γ)} {x : Str} {p1 : Pos} (i : Nat) (nd : X.N.Nodup) (he : EpD X ρ e o) (hr : ∀ a, Bs X xx (ρ.set i (.mut (MD.mk a))) rest fr (f a) post)
    (hi : X.N[i]? = some x := by rfl) (hx : Loc X.env.scope x := by first | exact Or.inl rfl | exact Or.inr rfl) (hs : swapsWith e (some (.Name x p1)) pos.line X.env = pure false := by rfl)
    (hf : X.fn x = true ∨ X.env.scope.names.lookup x = some .local := by first | exact .inl rfl | exact .inr rfl) : Bs X xx ρ (.Assign [.Name x p1] e pos :: rest) fr ((dkv o).bind f) post := .mk fun out ho We B σ W D S k => by
  refine (bs_asgD i nd he hr hi hx hs hf).run out ?_ We B σ W D S k
  obtain ⟨y, hy, hf'⟩ := bind_some ho
  obtain ⟨z, hz, hy⟩ := bind_some hy
  cases hy
  rw [hz]
  exact hf'
end
instance : Dat (Option (Int × Int)) where
  toD := fun o => match o with
    | none => .none
    | some a => Dat.toD a
  dp := fun {K H v a} h => by
    cases a with
    | none =>
      have h : v = .non := h
      subst h
      exact .non
    | some a => exact Dat.dp (α := Int × Int) h
  lay := fun a => by
    cases a with
    | none => rfl
    | some a => exact Dat.lay a
  deep := Dat.deep (Int × Int)
  dep := fun a => by
    cases a with
    | none => exact Nat.zero_le _
    | some a => exact Dat.dep a
  eqv := fun a b => by
    cases a with
    | none =>
      cases b with
      | none => exact ⟨fun _ => rfl, fun _ => rfl⟩
      | some b => exact ⟨fun h => (by cases h), fun h => (by cases h)⟩
    | some a =>
      cases b with
      | none => exact ⟨fun h => (by cases h), fun h => (by cases h)⟩
      | some b =>
        refine (Dat.eqv a b).trans ⟨fun h => by rw [h], fun h => Option.some.inj h⟩
def opl {α : Type} (o : Option (α × α)) : Option (List α) := o.bind fun p => some [p.1, p.2]
section
variable {X : Cx} {ρ : List SV} {elt tg iter : Expr} {ifs : List Expr} {scope : Scope}
/-- .. over a pair -/
theorem lc_P {α β : Type} [Rep α] [Rep β] {g : TG} {js : List Nat} {up : α → List SV → List SV} {oxs : Option (α × α)} {oc : α → Option Bool} {f : α → Option β} {tt : TT} (own : List (Str × Nat)) (ok : BlkOk X.N X.env.scope scope own) (hi : Ep X ρ iter oxs)
    (hg : ∀ (s : Shared) (H : Hp) (C : Addr) (cl : List (Str × Addr)) (fp : List Addr), PG (X.blk s H scope (compEnvC scope cl C X.env) fp) tg g) (ht : TgR X.K g js up) (hjs : ∀ j ∈ js, j ∈ own.map (·.2))
    (hpt : ∀ (s : Shared) (H : Hp) (C : Addr) (cl : List (Str × Addr)) (fp : List Addr), PTs (X.blk s H scope (compEnvC scope cl C X.env) fp) ifs tt)
    (hts : ∀ x b, oc x = some b → ∀ (We : Wd) (B : Hp) (σ : L2.St) (W : Wd) (Q : Bool → Hp → Prop), SR X.K We B (up x (wipeS ρ (own.map (·.2)))) σ W → (∀ W', W.Le W' → Q b W'.h) → tt σ W.h Q)
    (he : ∀ x (s : Shared) (H : Hp) (C : Addr) (cl : List (Str × Addr)) (fp : List Addr), Ep (X.blk s H scope (compEnvC scope cl C X.env) fp) (up x (wipeS ρ (own.map (·.2)))) elt (f x)) (hs : ∀ x, foldedSetIterable iter X.env x = pure x) :
    LcOk X ρ elt tg iter ifs scope ((opl oxs).bind fun xs => if capOk xs.length then lcM oc f xs else none) := ⟨_, g, tt, tElt X scope elt, own, pi_tup pe_run, ok, hg, hpt, fun s H C cl fp => ⟨fun pins s' σ' H' Q' I h => h s H C cl fp pins s' I⟩, hs, fun all hall We B σ W Q S k => by
  obtain ⟨xs, hxs, hm⟩ := bind_some hall
  obtain ⟨pr, hpr, hxs⟩ := bind_some hxs
  split at hm
  · rename_i hcap
    refine hi.run pr hpr We B σ W _ S fun v W1 l1 ⟨p, x1, x2, ev, hp, q1, q2⟩ => ?_
    have r1 : Paired (fun v x => rel X.K W1.s v x) [x1, x2] xs := by
      cases hxs
      exact .cons q1 (.cons q2 .nil)
    refine ⟨p, ev, ⟨[x1, x2], .of (W1.e _ _ hp)⟩, fun D hD => ?_⟩
    refine lc_tup (g := g) (tt := tt) (te := tElt X scope elt) (σ := σ) (vs := own.map (·.2)) (Qd := fun H => Q (.ref D) H) (xs := [x1, x2]) (LcP X.K We B ρ σ W1 D oc f xs all) (lcp_start hD hm) ?_ ?_ ?_
    · rintro i H _ ⟨W', us, ys, zs, rfl, l2, _⟩
      exact .of (l2.h _ _ (W1.e _ _ hp) rfl)
    · intro i v H hv pv
      obtain ⟨x, hx, rx⟩ := pget' r1 hv
      exact lcp_turn hD hx hcap (S.mono l1) rx ht hjs (fun b hb => hts x b hb) (fun y hy We' B' σ' W' Q' S' k' s H0 C cl fp => (he x s H0 C cl fp).run y hy We' B' σ' W' Q' S' k') pv
    · intro H pv
      rw [plen r1] at pv
      exact lcp_end l1 hD pv k
  · cases hm⟩
end
end T
/-! typed layer: lists of three kinds of thing -/
namespace T
open PySem PySem.Spec PyProof.Rows L2
open Evl (Ex)
open Rep (rel)
variable [Tb]
/-- a list of three kinds of thing -/
structure Thr (α β γ : Type) where
  a : α
  b : β
  c : γ
  deriving DecidableEq
instance {α β γ : Type} [Rep α] [Rep β] [Rep γ] : Rep (Thr α β γ) := ⟨fun K H v t => ∃ p x y z, v = .ref p ∧ H p = some (.lst [x, y, z]) ∧ rel K H x t.a ∧ rel K H y t.b ∧ rel K H z t.c,
  fun e ⟨p, x, y, z, h1, h2, h3, h4, h5⟩ => ⟨p, x, y, z, h1, e _ _ h2, Rep.mono e h3, Rep.mono e h4, Rep.mono e h5⟩⟩
instance {α β γ : Type} [Dat α] [Dat β] [Dat γ] : Dat (Thr α β γ) where
  toD := fun p => .list [Dat.toD p.a, Dat.toD p.b, Dat.toD p.c]
  dp := fun h => by
    obtain ⟨p, x, y, z, rfl, h2, h3, h4, h5⟩ := h
    exact .lst (.of h2) (.cons (Dat.dp h3) (.cons (Dat.dp h4) (.cons (Dat.dp h5) .nil)))
  lay := fun a => by rw [canLay_list, canLayAll_cons, canLayAll_cons, canLayAll_cons, canLayAll_nil, Dat.lay, Dat.lay, Dat.lay]; rfl
  deep := max (Dat.deep α) (max (Dat.deep β) (Dat.deep γ)) + 1
  dep := fun a => by
    rw [depth_list, depthAll_cons, depthAll_cons, depthAll_cons, depthAll_nil]
    have h1 := Dat.dep a.a
    have h2 := Dat.dep a.b
    have h3 := Dat.dep a.c
    omega
  eqv := fun a b => by
    rw [eqv_list, eqvAll_cons, eqvAll_cons, eqvAll_cons, eqvAll_nil, Bool.and_true, Bool.and_eq_true, Bool.and_eq_true, Dat.eqv, Dat.eqv, Dat.eqv]
    constructor
    · rintro ⟨h1, h2, h3⟩
      cases a
      cases b
      simp at h1 h2 h3
      rw [h1, h2, h3]
    · rintro rfl
      exact ⟨rfl, rfl, rfl⟩
section
variable {X : Cx} {ρ : List SV} {pos : Pos} {a b c : Expr} {α β γ : Type} [Rep α] [Rep β] [Rep γ]
def othr {α β γ : Type} (x : Option α) (y : Option β) (z : Option γ) : Option (Thr α β γ) := bind3 x y z fun i j k => some ⟨i, j, k⟩
theorem ep_thr {oa : Option α} {ob : Option β} {oc : Option γ} (ha : Ep X ρ a oa) (hb : Ep X ρ b ob) (hc : Ep X ρ c oc) (na : NS X a := by intro _; rfl) (nb : NS X b := by intro _; rfl) (nc : NS X c := by intro _; rfl) : Ep X ρ (.List [a, b, c] pos) (othr oa ob oc) := .mk fun z hz We B σ W Q S k => by
  obtain ⟨x, hx, hz⟩ := bind_some hz
  obtain ⟨y, hy, hz⟩ := bind_some hz
  obtain ⟨w, hw, hz⟩ := bind_some hz
  cases hz
  refine useE (pe_lst (pa_cons pe_run (pa_cons pe_run (pa_cons pe_run pa_nil (nc _)) (nb _)) (na _))) (ha.run x hx We B σ W _ S fun v W1 l1 r1 => hb.run y hy We B σ W1 _ (S.mono l1) fun u W2 l2 r2 => hc.run w hw We B σ W2 _ (S.mono (l1.trans l2)) fun t W3 l3 r3 => ⟨(show 3 ≤ sizeLine by decide), fun p hp => ?_⟩)
  have l4 := Wd.Le.new W3 (.lst [v, u, t]) hp
  exact k _ (W3.new p (.lst [v, u, t]) hp) (((l1.trans l2).trans l3).trans l4) ⟨p, v, u, t, rfl, upd_same, Rep.mono ((l2.trans l3).trans l4).s r1, Rep.mono (l3.trans l4).s r2, Rep.mono l4.s r3⟩
def othrA {α β γ : Type} (x : Option (Thr α β γ)) : Option α := x.bind fun p => some p.a
def othrB {α β γ : Type} (x : Option (Thr α β γ)) : Option β := x.bind fun p => some p.b
def othrC {α β γ : Type} (x : Option (Thr α β γ)) : Option γ := x.bind fun p => some p.c
theorem ep_thrA {oa : Option (Thr α β γ)} {j} {p1 : Pos} (ha : Ep X ρ a oa) : Ep X ρ (.Subscript a (.Constant (.int 0) j p1) pos) (othrA oa) := .mk fun z hz We B σ W Q S k => by
  obtain ⟨x, hx, hf⟩ := bind_some hz
  cases hf
  refine useE (pe_ix ix_list pe_run pe_int (fun _ _ => rfl)) (ha.run x hx We B σ W _ S fun v W1 l1 ⟨p, x1, y1, z1, e1, e2, r1, r2, r3⟩ => ?_)
  subst e1
  exact ⟨p, [x1, y1, z1], 0, x1, rfl, rfl, .of (W1.e _ _ e2), rfl, k x1 W1 l1 r1⟩
theorem ep_thrB {oa : Option (Thr α β γ)} {j} {p1 : Pos} (ha : Ep X ρ a oa) : Ep X ρ (.Subscript a (.Constant (.int 1) j p1) pos) (othrB oa) := .mk fun z hz We B σ W Q S k => by
  obtain ⟨x, hx, hf⟩ := bind_some hz
  cases hf
  refine useE (pe_ix ix_list pe_run pe_int (fun _ _ => rfl)) (ha.run x hx We B σ W _ S fun v W1 l1 ⟨p, x1, y1, z1, e1, e2, r1, r2, r3⟩ => ?_)
  subst e1
  exact ⟨p, [x1, y1, z1], 1, y1, rfl, rfl, .of (W1.e _ _ e2), rfl, k y1 W1 l1 r2⟩
theorem ep_thrC {oa : Option (Thr α β γ)} {j} {p1 : Pos} (ha : Ep X ρ a oa) : Ep X ρ (.Subscript a (.Constant (.int 2) j p1) pos) (othrC oa) := .mk fun z hz We B σ W Q S k => by
  obtain ⟨x, hx, hf⟩ := bind_some hz
  cases hf
  refine useE (pe_ix ix_list pe_run pe_int (fun _ _ => rfl)) (ha.run x hx We B σ W _ S fun v W1 l1 ⟨p, x1, y1, z1, e1, e2, r1, r2, r3⟩ => ?_)
  subst e1
  exact ⟨p, [x1, y1, z1], 2, z1, rfl, rfl, .of (W1.e _ _ e2), rfl, k z1 W1 l1 r3⟩
end
end T
/-! typed layer: chains of comparisons, calls as statements, dicts by whole numbers: least key, values, handed on locked -/
namespace T
open PySem PySem.Spec PyProof.Rows L2
open Evl (Ex)
open Rep (rel)
variable [Tb]
section
variable {X : Cx} {xx : Nat → Hp → Prop} {ρ : List SV} {rest : List Stmt} {e a b c : Expr} {pos : Pos}
variable {β γ κ δ : Type} [Rep β] [DecidableEq κ] [Rep κ] [DKy κ] [Rep δ] {fr : Bool} {post : γ → List SV}
/-! ### a <= b < c -/
def ochn (x y z : Option Int) : Option Bool := x.bind fun i => y.bind fun j => if i ≤ j then z.bind fun k => some (decide (j < k)) else some false
theorem tp_chn {oa ob oc : Option Int} (ha : Ep X ρ a oa) (hb : Ep X ρ b ob) (hc : Ep X ρ c oc) (hm : lastMarks [CmpOp.LtE, CmpOp.Lt] [b, c] = false := by rfl) : Tp X ρ (.Compare a [.LtE, .Lt] [b, c] pos) (ochn oa ob oc) := .mk fun z hz We B σ W Q S k => by
  obtain ⟨x, hx, hz⟩ := bind_some hz
  obtain ⟨y, hy, hz⟩ := bind_some hz
  refine useT (pt_chain op_le op_lt pe_run pe_run pe_run (hm := hm)) (ha.run x hx We B σ W _ S fun v W1 l1 r1 => hb.run y hy We B σ W1 _ (S.mono l1) fun u W2 l2 r2 => ?_)
  cases r1
  cases r2
  refine ⟨x, y, rfl, rfl, _, rfl, ?_⟩
  by_cases h : x ≤ y
  · rw [if_pos h] at hz
    rw [decide_eq_true h]
    obtain ⟨w, hw, hz⟩ := bind_some hz
    cases hz
    refine iteT (hc.run w hw We B σ W2 _ (S.mono (l1.trans l2)) fun t W3 l3 r3 => ?_)
    cases r3
    exact ⟨y, w, rfl, rfl, _, rfl, k W3 ((l1.trans l2).trans l3)⟩
  · rw [if_neg h] at hz
    cases hz
    rw [decide_eq_false h]
    exact iteF ⟨_, rfl, k W2 (l1.trans l2)⟩
theorem ep_chn {oa ob oc : Option Int} (ha : Ep X ρ a oa) (hb : Ep X ρ b ob) (hc : Ep X ρ c oc) (hm : lastMarks [CmpOp.LtE, CmpOp.Lt] [b, c] = false := by rfl) : Ep X ρ (.Compare a [.LtE, .Lt] [b, c] pos) (ochn oa ob oc) := .mk fun z hz We B σ W Q S k => by
  obtain ⟨x, hx, hz⟩ := bind_some hz
  obtain ⟨y, hy, hz⟩ := bind_some hz
  refine useE (pe_chain op_le op_lt pe_run pe_run pe_run (hm := hm)) (ha.run x hx We B σ W _ S fun v W1 l1 r1 => hb.run y hy We B σ W1 _ (S.mono l1) fun u W2 l2 r2 => ?_)
  cases r1
  cases r2
  refine ⟨x, y, rfl, rfl, _, rfl, ?_⟩
  by_cases h : x ≤ y
  · rw [if_pos h] at hz
    rw [decide_eq_true h]
    obtain ⟨w, hw, hz⟩ := bind_some hz
    cases hz
    refine iteT (hc.run w hw We B σ W2 _ (S.mono (l1.trans l2)) fun t W3 l3 r3 => ?_)
    cases r3
    exact ⟨y, w, rfl, rfl, k _ W3 ((l1.trans l2).trans l3) rfl⟩
  · rw [if_neg h] at hz
    cases hz
    rw [decide_eq_false h]
    exact iteF (k _ W2 (l1.trans l2) rfl)
/-! ### a call for its own sake -/
theorem bs_expr {α : Type} [Rep α] {o : Option α} {m : Option (Out β γ)} (he : Ep X ρ e o) (hr : Bs X xx ρ rest fr m post) (hs : swapsWith e none pos.line X.env = pure false := by rfl) : Bs X xx ρ (.Expr e pos :: rest) fr (o.bind fun _ => m) post := .mk fun out ho We B σ W D S k => by
  obtain ⟨x, hx, hf⟩ := bind_some ho
  exact useSs (pss_cons (ps_expr pe_run hs) pss_run) (he.run x hx We B σ W _ S fun v W1 l1 _ => hr.run out hf We B σ W1 D (S.mono l1) k)
/-! ### a fresh dict, handed on locked -/
def olk (o : Option (Du κ δ)) : Option (Dc κ δ) := o.bind fun d => some (Dc.mk d.kvs)
theorem ep_lock {κ δ : Type} [DecidableEq κ] [Rep κ] [DKy κ] [DKd κ] [NoD δ] {o : Option (Du κ δ)} (h : EpD X ρ e (κ := κ) (δ := δ) o) : Ep X ρ e (olk o) := .mk fun z hz We B σ W Q S k pins s I => by
  obtain ⟨d, hd, hz⟩ := bind_some hz
  cases hz
  refine thn (h.run d hd We B σ W (fun v H => ∃ p od, v = .ref p ∧ ∃ ws W', W.Le W' ∧ fre W.h p ∧ W'.s p = some (DKy.ob ws) ∧ DP X.K W'.s ws d.kvs ∧ W'.h = H) S (fun p ws W' le hn hp r => ⟨p, (), rfl, ws, W', le, hn, hp, r, rfl⟩) pins s I) fun v s1 ⟨x, H1, I1, r1, p, od, ex, ws, W', le, hn, hp, r, eh⟩ => ?_
  subst eh
  subst ex
  obtain ⟨ob, I2⟩ := I1.lock (W'.e _ _ hp) (DKy.mu ws)
  have pl : ∀ o, W'.h p = some o → isPl o = true := fun o q => by rw [W'.e _ _ hp] at q; cases q; exact DKy.pl ws
  let W1 : Wd := (W'.unset p).upH p (.frz ob (DKy.ob ws)) (if_pos rfl) pl
  let W2 : Wd := W1.settle p (.frz ob (DKy.ob ws)) upd_same rfl
  have hsn : W.s p = none := W.fs hn
  have ne_s : ∀ {q : Addr} {o : HO}, W.s q = some o → q ≠ p := fun {q o} h z => by subst z; rw [hsn] at h; cases h
  have s2 : ∀ {q : Addr}, q ≠ p → W2.s q = W'.s q := fun {q} h => by
    show upd (unS W'.s p) p _ q = _
    rw [upd_ne h]
    exact if_neg h
  have h2 : ∀ {q : Addr}, q ≠ p → W2.h q = W'.h q := fun {q} h => by
    show upd W'.h p _ q = _
    rw [upd_ne h]
  have ne_h : ∀ {q : Addr} {o : HO}, W.h q = some o → isTb o = false → q ≠ p := fun {q o} h n z => by subst z; exact fre_no hn h n
  refine ⟨.ref p, W2.h, I2, r1, k (.ref p) W2 ⟨fun q o h => by rw [s2 (ne_s h)]; exact le.s q o h, fun q o h n => by rw [h2 (ne_h h n)]; exact le.h q o h n, fun q o h n h3 => by rw [s2 (ne_h h (tb_of_pl n))]; exact le.f q o h n h3⟩ ⟨p, ob, ws, rfl, upd_same, pmono (fun _ _ ⟨a, b⟩ => ⟨a, NoD.minusD (fun q o hq dc => ?_) b⟩) r⟩⟩
  rw [s2 (fun z => by subst z; rw [hp] at hq; cases hq; rw [DKd.dc ws] at dc; cases dc)]
  exact hq
/-! ### the least key -/
/-- what min picks of a list is a least member of it -/
theorem pick_least {l : List Int} {n : Nat} (hn : l.length = n + 1) :
    ∃ m, l.getD (argBest (fun i j => decide (l.getD i 0 < l.getD j 0)) n) 0 = m ∧ m ∈ l ∧ ∀ y ∈ l, m ≤ y := by
  obtain ⟨p, q⟩ := argBest_lt (fun i => l.getD i 0) n
  generalize argBest (fun i j => decide (l.getD i 0 < l.getD j 0)) n = r at p q ⊢
  have hr : r < l.length := by omega
  refine ⟨l[r], by simp [hr], by simp, fun y hy => ?_⟩
  obtain ⟨i, hi, rfl⟩ := List.getElem_of_mem hy
  have := q i (by omega)
  simpa [hr, hi] using this
/-- the key at a place of a dict whose keys are the whole numbers l -/
theorem key_int {P : Program} {w : World} {l : List Int} {us : List (Key × Value)} (hk : us.map (·.1) = l.map Sum.inl) (i : Nat) (v : Value)
    (h : ∃ k x, us[i]? = some (k, x) ∧ (mixKind P w).is k v = true) : ∃ t, v = Value.int (l.getD i 0) t := by
  obtain ⟨k, x, e, y⟩ := h
  have z : (l.map (Sum.inl : Int → Key))[i]? = some k := by simp [← hk, e]
  cases q : l[i]? with
  | none => simp [q] at z
  | some j =>
    simp [q] at z
    subst z
    simpa [List.getD, q] using Value.isInt_shape y
theorem cr_minR (hc : X.calm = true) : CallR X (.builtin "min") (fun vs H Q => ∃ (a : Addr) (kvs : List (Key × V)) (is : List Int), vs = [V.ref a] ∧ Rd H a (.dK kvs) ∧ kvs.map (·.1) = is.map Sum.inl ∧ is ≠ [] ∧ ∀ m, m ∈ is → (∀ j ∈ is, m ≤ j) → Q (.int m) H) :=
  fun pins s σ H xs us Q I r ⟨a, kvs, is, e0, rd, hk, ne, fin⟩ => by
  cases e0
  cases Vals.ref1 r
  obtain ⟨_, nosys, ds, kv, dd⟩ := dk_rd I.hok rd
  obtain ⟨ep, la⟩ := dd.dictAt
  have kn : ds.map (·.1) = is.map Sum.inl := (KV.keys kv).symm.trans hk
  have en : ds.length = is.length := by simpa using congrArg List.length kn
  obtain ⟨n, hn⟩ : ∃ n, is.length = n + 1 := ⟨is.length - 1, by have := List.length_pos_iff.mpr ne; omega⟩
  obtain ⟨m, em, m1, m2⟩ := pick_least hn
  have low := la.lt_size
  have walk := Walks.dictKeys (knd := mixKind X.prog X.w) (A := X.A.in1) (I.ok.hd hc) s.heap.objs.size a (Nat.ne_of_lt low) ds ep
  apply call_min_walk
  apply wpAny_pyIter_dict (knd := mixKind X.prog X.w) nosys la
  refine ⟨_, _, _, _, _, _, _, rfl, walk, ?start, ?below, by omega, CmpOf.ints_lt (is.getD · 0) (key_int kn), fun v h' tk hv kp => ?done⟩
  case start => exact ⟨⟨_, Heap.get?_push_size _ rfl, rfl, rfl⟩, la.push _⟩
  case below =>
    intro b hb
    have both : b = s.heap.objs.size ∨ b = a := by simpa using hb
    have le : b ≤ s.heap.objs.size := both.elim (fun e => e ▸ Nat.le_refl _) fun e => e ▸ Nat.le_of_lt low
    simpa [Heap.size_push] using Nat.lt_succ_of_le le
  case done =>
    obtain ⟨t, rfl⟩ := key_int kn _ v hv
    rw [show ds.length - 1 = n by omega, em]
    refine ⟨.int m, H, I.kept (t' := tk) fun b o eb => ?_, ⟨t, rfl⟩, fin m m1 m2⟩
    have lb : b < s.heap.objs.size := Heap.lt_size eb
    exact kp b o (fun hb => Nat.ne_of_lt lb (by simpa using hb)) (Heap.get?_push_of_some _ eb)
def ominK (o : Option (Dc Int δ)) : Option Int := o.bind fun d => match d.kvs.map (·.1) with
  | [] => none
  | k :: ks => some (ks.foldl (fun a y => if y < a then y else a) k)
theorem foldmin : ∀ (ks : List Int) (k : Int), ks.foldl (fun a y => if y < a then y else a) k ∈ k :: ks ∧ ∀ j ∈ k :: ks, ks.foldl (fun a y => if y < a then y else a) k ≤ j
  | [], k => ⟨List.mem_cons_self .., fun j hj => by rw [List.mem_singleton.mp hj]; exact Int.le_refl _⟩
  | y :: ks, k => by
    obtain ⟨h1, h2⟩ := foldmin ks (if y < k then y else k)
    rw [List.foldl_cons]
    constructor
    · rcases List.mem_cons.mp h1 with h | h
      · rw [h]
        split <;> simp
      · exact List.mem_cons_of_mem _ (List.mem_cons_of_mem _ h)
    · intro j hj
      have h0 := h2 _ (List.mem_cons_self ..)
      have hk : (if y < k then y else k) ≤ y ∧ (if y < k then y else k) ≤ k := by split <;> omega
      rcases List.mem_cons.mp hj with e | hj
      · rw [e]; exact Int.le_trans h0 hk.2
      · rcases List.mem_cons.mp hj with e | hj
        · rw [e]; exact Int.le_trans h0 hk.1
        · exact h2 j (List.mem_cons_of_mem _ hj)
theorem dp_keys {K : PySem.W.Frag} {H : Hp} {ws : List (κ × V)} {k : List (κ × δ)} (h : DP K H ws k) : ws.map (·.1) = k.map (·.1) := by
  induction h with
  | nil => rfl
  | cons h _ ih => rw [List.map_cons, List.map_cons, h.1, ih]
theorem ep_minK {o : Option (Dc Int δ)} {p1 : Pos} (hc : X.calm = true) (hg : Gl X "min") (hm : X.mg "min" = none) (ha : Ep X ρ a o) (hst : NS X a := by intro _; rfl) : Ep X ρ (.Call (.Name "min" p1) [a] [] pos) (ominK o) := .mk fun z hz We B σ W Q S k => by
  obtain ⟨d, hd, hz⟩ := bind_some hz
  refine useE (pe_callB (cr_minR hc) hg hm boot_min (pa_cons pe_run pa_nil (hst _)) (he := hst _)) (ha.run d hd We B σ W _ S fun v W1 l1 ⟨p, ob, ws, e1, e2, r⟩ => ?_)
  have ek := dp_keys r
  refine ⟨p, ws.map fun kv => (kI kv.1, kv.2), d.kvs.map (·.1), by rw [e1], .inr ⟨ob, W1.e _ _ e2⟩, ?_, ?_, fun m hm1 hm2 => ?_⟩
  · rw [← ek, List.map_map, List.map_map]
    rfl
  · intro z0
    rw [z0] at hz
    cases hz
  · refine k _ W1 l1 ?_
    show V.int m = V.int z
    cases q : d.kvs.map (·.1) with
    | nil => rw [q] at hz; cases hz
    | cons y ys =>
      rw [q] at hz hm1 hm2
      cases hz
      obtain ⟨f1, f2⟩ := foldmin ys y
      have := hm2 _ f1
      have := f2 _ hm1
      have e : m = ys.foldl (fun a y => if y < a then y else a) y := by omega
      rw [e]
/-! ### list(d.values()) -/
theorem pe_dvalsK {o : Expr} {t : TE} {apos cpos : Pos} (hd : PE X o t) (hbase : attributeBase o "values" X.env (eval o X.env) = eval o X.env := by rfl) (hline : (apos.endLine == cpos.line) = true := by rfl) :
    PE X (.Call (.Attribute o "values" apos) [] [] cpos) (fun σ H Q => t σ H fun x H1 => ∃ (a : Addr) (kvs : List (Key × V)), x = .ref a ∧ Rd H1 a (.dK kvs) ∧ ∀ p, H1 p = none → Q (.ref p) (upd H1 p (viewO "dict_values" p a))) := by
  refine ⟨fun pins s σ H Q I h => ?_⟩
  refine wpAny_Call_method0_late hbase hline (thn (hd.run pins s σ H _ I h) fun v s1 ⟨x, H1, I1, r1, a, kvs, ex, ha, q⟩ => ?_)
  subst ex
  obtain rfl : v = Value.ref a := r1
  obtain ⟨_, hsys, vs, rel, dof⟩ := dk_rd I1.hok ha
  obtain ⟨ep, dat⟩ := dof.dictAt
  have dat' := dat
  obtain ⟨ob, es, ho, ex, hdat, hko, hpr, hnd⟩ := dat'
  refine ⟨"dict", "dict.values", F.plainAttrs_dict, F.slot_dict_values, F.type_dict_values, ⟨ob, ho, ex.1⟩, fun b e => ?_, Calls.callWith_builtin rfl (PySem.evalArgs_none ?_)⟩
  · cases e
    exact ⟨ob, ho, ex.2.1⟩
  refine call_meetsIn F.slot_dict_values ⟨ob, ho, ex.1⟩ F.entry_dict_values (F.args_dict_values_1 _) (meets_dict_values (mixKind X.prog X.w) a hsys) ⟨⟨vs, dof⟩, ?_⟩
  exact ⟨.ref s1.heap.objs.size, _, I1.laid (t' := s1.toks) (fun b o q => Heap.get?_push_of_some _ q) (Nat.le_refl _) (viewO_ok (Heap.get?_push_size _ rfl)), rfl, q _ (I1.hok.fresh (Nat.le_refl _))⟩
theorem call_listVals (hc : X.calm = true) : CallR X (.type "list") (fun xs H Q => ∃ (p a : Addr) (kvs : List (Key × V)), xs = [.ref p] ∧ H p = some (viewO "dict_values" p a) ∧ Rd H a (.dK kvs) ∧ ∀ q, H q = none → Q (.ref q) (upd H q (.lst (kvs.map (·.2))))) := by
  intro pins s σ H xs us Q I r h
  obtain ⟨p, a, kvs, e, hp, ha, q⟩ := h
  subst e
  obtain ⟨u, eu, rx⟩ := vals1 r
  subst eu
  obtain rfl : u = Value.ref p := rx
  have hv : s.heap.get? p = some (DSub.viewOb "dict_values" a) := (show ObjOk X.prog X.w H s.heap p (viewO "dict_values" p a) from I.hok p _ hp).1
  obtain ⟨z, lo, vs, rk, hd⟩ := dk_rd I.hok ha
  obtain ⟨ep, hat⟩ := hd.dictAt
  have hl : kvs.length = vs.length := Paired.length rk
  refine PySem.W.kdl_call (PySem.W.kdl_values (knd := mixKind X.prog X.w) (r := p) (d := a) (kvs := vs) (ep := ep)) (I.ok.hd hc) ⟨⟨_, hv, rfl, rfl⟩, hat⟩ (by rw [← hl]; exact z) fun h' tk acc' c' hkeep hS hacc => ?_
  refine ⟨.ref s.heap.objs.size, upd H s.heap.objs.size (.lst (kvs.map (·.2))), I.laid hkeep (Nat.le_refl _) (show ObjOk X.prog X.w _ _ _ (.lst (kvs.map (·.2))) from ⟨?_, acc'.toList, c', ?_, ?_⟩), rfl, q _ (I.hok.fresh (Nat.le_refl _))⟩
  · rw [List.length_map]; exact z
  · have el : acc'.toList.length = acc'.size := by simp
    refine vals_of_at (by rw [List.length_map, el, hacc.1, hl]) fun j x w h1 h2 => ?_
    obtain ⟨k, hky⟩ := hacc.2 j w (by rw [← Array.getElem?_toList]; exact h2)
    obtain ⟨y, h3, h4⟩ := KV.at' rk hky
    rw [List.getElem?_map, h3] at h1
    cases h1
    exact h4
  · rw [Array.toArray_toList]; exact hS
def ovals (o : Option (Dc Int δ)) : Option (List δ) := o.bind fun d => some (d.kvs.map (·.2))
theorem ep_listVals {o : Option (Dc Int δ)} {p1 p2 p3 : Pos} (hc : X.calm = true) (hg : Gl X "list") (hm : X.mg "list" = none) (ha : Ep X ρ a o) (hbase : attributeBase a "values" X.env (eval a X.env) = eval a X.env := by rfl) (hline : (p2.endLine == p3.line) = true := by rfl)
    (hst : NS X (.Call (.Attribute a "values" p2) [] [] p3) := by intro _; rfl) : EpF X ρ (.Call (.Name "list" p1) [.Call (.Attribute a "values" p2) [] [] p3] [] pos) (ovals o) := .mk fun z hz We B σ W Q S k => by
  obtain ⟨d, hd, hz⟩ := bind_some hz
  cases hz
  refine useE (pe_callTy (call_listVals hc) hg hm PyProof.Rows.boot_list (pa_cons (pe_dvalsK pe_run hbase hline) pa_nil (hst _)) (he := hst _)) (ha.run d hd We B σ W _ S fun v W1 l1 ⟨p, ob, ws, e1, e2, r⟩ => ?_)
  refine ⟨p, ws.map fun kv => (kI kv.1, kv.2), e1, .inr ⟨ob, W1.e _ _ e2⟩, fun n hn => ⟨n, p, ws.map fun kv => (kI kv.1, kv.2), rfl, upd_same, .inr ⟨ob, Ex.new hn _ _ (W1.e _ _ e2)⟩, fun m hm2 => ?_⟩⟩
  have l2 := Wd.Le.new W1 (viewO "dict_values" n p) hn
  have l3 := Wd.Le.new (W1.new n (viewO "dict_values" n p) hn) (.lst ((ws.map fun kv => (kI kv.1, kv.2)).map (·.2))) hm2
  refine k m _ (Wd.new (W1.new n (viewO "dict_values" n p) hn) m (.lst ((ws.map fun kv => (kI kv.1, kv.2)).map (·.2))) hm2) ((l1.trans l2).trans l3) ((l1.trans l2).h.back (fre_of hm2)) upd_same ?_
  have go : ∀ {H : Hp} {ws : List (Int × V)} {k : List (Int × δ)}, DP X.K H ws k → Paired (fun v x => rel X.K H v x) ((ws.map fun kv => (kI kv.1, kv.2)).map (·.2)) (k.map (·.2)) := fun {H ws k} h => by
    induction h with
    | nil => exact .nil
    | cons h _ ih => exact .cons h.2 ih
  exact go (r.mono (l2.trans l3).s)
/-! ### a list that changes its name -/
theorem SR.move {K : PySem.W.Frag} {We W : Wd} {B : Hp} {σ : L2.St} {α : Type} [MRep α] {i j : Nat} {m : α} {l : Addr} (S : SR K We B ρ σ W) (hij : i ≠ j) (h : ρ[j]? = some (.mut m)) (hl : σ[j]? = some (some (.ref l))) : SR K We B ((ρ.set j .any).set i (.mut m)) (σ.set i (some (.ref l))) W := by
  obtain ⟨l0, ob, e1, n1, n2, hh, r⟩ := S.at_ j _ h
  rw [hl] at e1
  cases e1
  have sub : ∀ {q : Nat} {y : SV}, ((ρ.set j .any).set i (.mut m))[q]? = some y → y.isMut → (q = i ∧ i < ρ.length) ∨ (q ≠ i ∧ q ≠ j ∧ ρ[q]? = some y) := fun {q y} hq my => by
    rcases get_set_cases hq with ⟨rfl, rfl, hlt⟩ | ⟨hne, h2⟩
    · rw [List.length_set] at hlt
      exact .inl ⟨rfl, hlt⟩
    · rcases get_set_cases h2 with ⟨rfl, rfl, hlt⟩ | ⟨hne', h3⟩
      · exact my.elim
      · exact .inr ⟨hne, hne', h3⟩
  have at' : ∀ {q : Nat}, q ≠ i → (σ.set i (some (.ref l)))[q]? = σ[q]? := fun {q} hq => List.getElem?_set_ne (fun z => hq z.symm)
  refine ⟨S.le, S.b, by rw [List.length_set, List.length_set, List.length_set]; exact S.len, fun q y hq => ?_, fun q q' y z a hqq hq hq' mq mq' eq eq' => ?_⟩
  · rcases get_set_cases hq with ⟨rfl, rfl, hlt⟩ | ⟨hne, h2⟩
    · rw [List.length_set] at hlt
      rw [List.getElem?_set_self (by rw [S.len]; exact hlt)]
      exact ⟨l, ob, rfl, n1, n2, hh, r⟩
    · rw [at' hne]
      rcases get_set_cases h2 with ⟨rfl, rfl, hlt⟩ | ⟨hne', h3⟩
      · trivial
      · exact S.at_ q y h3
  · rcases sub hq mq with ⟨rfl, hlt⟩ | ⟨h1, h2, h3⟩
    · rw [List.getElem?_set_self (by rw [S.len]; exact hlt)] at eq
      cases eq
      rcases sub hq' mq' with ⟨rfl, _⟩ | ⟨h1', h2', h3'⟩
      · exact hqq rfl
      · rw [at' h1'] at eq'
        exact S.sep q' j _ _ _ h2' h3' h mq' trivial eq' hl
    · rw [at' h1] at eq
      rcases sub hq' mq' with ⟨rfl, hlt⟩ | ⟨h1', h2', h3'⟩
      · rw [List.getElem?_set_self (by rw [S.len]; exact hlt)] at eq'
        cases eq'
        exact S.sep q j _ _ _ h2 h3 h mq trivial eq hl
      · rw [at' h1'] at eq'
        exact S.sep q q' _ _ _ hqq h3 h3' mq mq' eq eq'
theorem bs_move {α : Type} [MRep α] {m : α} {mm : Option (Out β γ)} {x y : Str} {p1 p2 : Pos} (i j : Nat) (nd : X.N.Nodup) (hr : Bs X xx ((ρ.set j .any).set i (.mut m)) rest fr mm post) (hij : i ≠ j := by decide) (hρ : ρ[j]? = some (.mut m) := by rfl) (hN : X.N[j]? = some y := by rfl)
    (hv : Vis X.env.scope y := by first | exact Or.inl rfl | exact Or.inr (Or.inl rfl) | exact Or.inr (Or.inr rfl)) (hd : (y == ("__debug__" : Str)) = false := by decide) (hcd : (y == ("__classdict__" : Str)) = false := by decide)
    (hi : X.N[i]? = some x := by rfl) (hx : Loc X.env.scope x := by first | exact Or.inl rfl | exact Or.inr rfl) (hs : swapsWith (.Name y p2) (some (.Name x p1)) pos.line X.env = pure false := by rfl)
    (hf : X.fn x = true ∨ X.env.scope.names.lookup x = some .local := by first | exact .inl rfl | exact .inr rfl) : Bs X xx ρ (.Assign [.Name x p1] (.Name y p2) pos :: rest) fr mm post := .mk fun out ho We B σ W D S k => by
  obtain ⟨l, ob, e1, _, _, _, _⟩ := S.at_ j _ hρ
  exact useSs (pss_cons (ps_set nd hi hx (pe_var hN hv hd hcd) hs hf) pss_run) ⟨_, e1, hr.run out ho We B _ W D (S.move hij hρ e1) k⟩
/-- a list that is still changed, lent for a test -/
theorem tp_borrowL {α : Type} [Rep α] {m : ML α} {o : Option Bool} (i : Nat) (h : Tp X (ρ.set i (.imm m.xs)) e o) (hi : ρ[i]? = some (.mut m) := by rfl) : Tp X ρ e o := .mk fun z hz We B σ W Q S k => by
  obtain ⟨l, ob, e1, n1, n2, hh, vs, rfl, r⟩ := S.at_ i _ hi
  have S3 := S.lend (a := m.xs) hi e1 n1 n2 hh (show isTb (HO.lst vs) = false from rfl) ⟨l, vs, rfl, upd_same, pmono (fun _ _ h => Rep.mono (Ex.new n2) h) r⟩
  exact h.run z hz We B σ (W.settle l _ hh rfl) Q S3 fun W' le => k (W'.unset l) (Wd.Le.lent n2 hh rfl le)
end
/-! ### a def that ends without a return -/
def retu {γ : Type} (o : Option (Out Unit γ)) : Option Unit := match o with
  | some (.ret _) => some ()
  | some (.go _) => some ()
  | _ => none
section
variable {P : Program} {w : World} {K : PySem.W.Frag} {mg : Str → Option Value} {base : Heap} {name qual : Str} {params : Arguments} {body : List Stmt} {scope : Scope} {f : Addr} {fd : FuncData} {N ps : List Str} {k : Nat}
theorem fn_okU2 {α α' γ : Type} [Rep α] [Rep α'] {m : α → α' → Option (Out Unit γ)} {post : γ → List SV} (F : FunD K name qual params body scope [] [] f fd) (S : FnScope N ps scope) (hl : ps.length ≤ N.length) (h1 : ps.length = 2)
    (h : ∀ (cdv : Value) (A : Around) (outer : List Env) (s : Shared) (H : Hp) (E : XK), Room k (A.deeper (envOfC qual scope s.heap.objs.size f cdv)) → ∀ a b, Bs (cx0 P w K mg base N qual scope f cdv A outer s H E) noX ([.imm a, .imm b] ++ List.replicate (N.length - 2) .any) body false (m a b) post) :
    FnOk P w K mg base CX0 (k + 1) f fd ps (spOf K false (C2 fun a b => retu (m a b))) := by
  refine F.ok S (fun vs H Q E ⟨W, avs, r, _, pr, _, ⟨a, b, e, _⟩, _⟩ => pr.len.trans (by rw [e, h1]; rfl)) (fun cdv A outer s H vs Q E hr ⟨W, avs, r, eh, pr, nm, ⟨a, b, e, hm⟩, q⟩ => ?_)
  subst eh
  subst e
  have hb := h cdv A outer s W.h E hr a b
  refine ⟨RunSs (cx0 P w K mg base N qual scope f cdv A outer s W.h E) body, PSs.nox pss_run, ?_⟩
  dsimp only at hm
  have st := sr_start (K := K) (N := N) (by show 2 ≤ N.length; rw [← h1]; exact hl) pr nm
  unfold retu at hm
  split at hm
  · rename_i b' hmm
    exact hb.run (.ret b') hmm W W.s _ W _ st fun v W' le _ rr _ => q v W' le rr (fun z => by cases z)
  · rename_i g hmm
    exact hb.run (.go g) hmm W W.s _ W _ st fun σ' W' S' => q .non W' S'.le rfl (fun z => by cases z)
  · cases hm
end
end T
/-! plain geometry: the order of directions, convex chains, a point added on the right -/
namespace T
/-! ### vectors -/
def crs (u v : Pt) : Int := u.1 * v.2 - u.2 * v.1
def vec (a b : Pt) : Pt := (b.1 - a.1, b.2 - a.2)
/-- to the right, or straight up -/
def lp (u : Pt) : Prop := 0 < u.1 ∨ (u.1 = 0 ∧ 0 < u.2)
/-- a before b, by the first number, then by the second -/
def lx (a b : Pt) : Prop := a.1 < b.1 ∨ (a.1 = b.1 ∧ a.2 < b.2)
instance (a b : Pt) : Decidable (lx a b) := inferInstanceAs (Decidable (_ ∨ _))
theorem lp_vec {a b : Pt} : lp (vec a b) ↔ lx a b := by
  unfold lp vec lx
  constructor <;> rintro (h | ⟨h, k⟩) <;> dsimp at * <;> omega
theorem area_crs (a b c : Pt) : area a b c = crs (vec a b) (vec a c) := rfl
theorem area_crs2 (a b c : Pt) : area a b c = crs (vec a b) (vec b c) := by unfold area crs vec; grind
theorem crs_neg (u v : Pt) : crs v u = -crs u v := by unfold crs; grind
theorem crs_vec (u : Pt) (a b : Pt) : crs u (vec b a) = -crs u (vec a b) := by unfold crs vec; grind
theorem lx_irrefl (a : Pt) : ¬ lx a a := by unfold lx; omega
theorem lx_trans {a b c : Pt} (h : lx a b) (k : lx b c) : lx a c := by unfold lx at *; omega
theorem lx_asymm {a b : Pt} (h : lx a b) (k : lx b a) : False := by unfold lx at *; omega
theorem lx_total {a b : Pt} (h : ¬ lx a b) (k : ¬ lx b a) : a = b := by
  unfold lx at *
  exact Prod.ext (by omega) (by omega)
theorem lx_ne {a b : Pt} (h : lx a b) : a ≠ b := fun e => lx_irrefl a (by rw [← e] at h; exact h)
/-- the way round: a plane's three directions -/
theorem crs_x (u v w : Pt) : v.1 * crs u w = u.1 * crs v w + w.1 * crs u v := by unfold crs; grind
theorem pos_of_mul {a b : Int} (ha : 0 < a) (h : 0 < a * b) : 0 < b := by
  rcases Int.lt_trichotomy b 0 with k | k | k
  · have := Int.mul_neg_of_pos_of_neg ha k
    omega
  · subst k
    omega
  · exact k
theorem nonneg_of_mul {a b : Int} (ha : 0 < a) (h : 0 ≤ a * b) : 0 ≤ b := by
  rcases Int.lt_trichotomy b 0 with k | k | k
  · have := Int.mul_neg_of_pos_of_neg ha k
    omega
  · omega
  · omega
theorem mul_pos' {a b : Int} (ha : 0 < a) (hb : 0 < b) : 0 < a * b := Int.mul_pos ha hb
theorem mul_nn {a b : Int} (ha : 0 ≤ a) (hb : 0 ≤ b) : 0 ≤ a * b := Int.mul_nonneg ha hb
theorem lp_nn {u : Pt} (h : lp u) : 0 ≤ u.1 := by unfold lp at h; omega
/-- u up to v, v up to w: u up to w -/
theorem le_le {u v w : Pt} (hu : lp u) (hv : lp v) (hw : lp w) (h1 : 0 ≤ crs u v) (h2 : 0 ≤ crs v w) : 0 ≤ crs u w := by
  rcases hv with hv | ⟨hv, hv2⟩
  · refine nonneg_of_mul hv ?_
    rw [crs_x]
    exact Int.add_nonneg (mul_nn (lp_nn hu) h2) (mul_nn (lp_nn hw) h1)
  · have e : crs v w = -(v.2 * w.1) := by unfold crs; rw [hv]; grind
    have h3 : w.1 = 0 := by
      rcases Int.lt_trichotomy w.1 0 with k | k | k
      · have := lp_nn hw; omega
      · exact k
      · have := mul_pos' hv2 k
        omega
    have hw2 : 0 < w.2 := by unfold lp at hw; omega
    have e2 : crs u w = u.1 * w.2 := by unfold crs; rw [h3]; grind
    rw [e2]
    exact mul_nn (lp_nn hu) (by omega)
theorem lt_le {u v w : Pt} (hu : lp u) (hv : lp v) (hw : lp w) (h1 : 0 < crs u v) (h2 : 0 ≤ crs v w) : 0 < crs u w := by
  have hux : 0 < u.1 := by
    rcases hu with hu | ⟨hu, hu2⟩
    · exact hu
    · have e : crs u v = -(u.2 * v.1) := by unfold crs; rw [hu]; grind
      have := mul_nn (show 0 ≤ u.2 by omega) (lp_nn hv)
      omega
  rcases hv with hv | ⟨hv, hv2⟩
  · refine pos_of_mul hv ?_
    rw [crs_x]
    rcases hw with hw | ⟨hw, hw2⟩
    · exact Int.add_pos_of_nonneg_of_pos (mul_nn (by omega) h2) (mul_pos' hw h1)
    · have e : crs v w = v.1 * w.2 := by unfold crs; rw [hw]; grind
      rw [hw, e, Int.zero_mul, Int.add_zero]
      exact mul_pos' hux (mul_pos' hv hw2)
  · have e : crs v w = -(v.2 * w.1) := by unfold crs; rw [hv]; grind
    have h3 : w.1 = 0 := by
      rcases Int.lt_trichotomy w.1 0 with k | k | k
      · have := lp_nn hw; omega
      · exact k
      · have := mul_pos' hv2 k
        omega
    have hw2 : 0 < w.2 := by unfold lp at hw; omega
    have e2 : crs u w = u.1 * w.2 := by unfold crs; rw [h3]; grind
    rw [e2]
    exact mul_pos' hux hw2
theorem le_lt {u v w : Pt} (hu : lp u) (hv : lp v) (hw : lp w) (h1 : 0 ≤ crs u v) (h2 : 0 < crs v w) : 0 < crs u w := by
  have hvx : 0 < v.1 := by
    rcases hv with hv | ⟨hv, hv2⟩
    · exact hv
    · have e : crs v w = -(v.2 * w.1) := by unfold crs; rw [hv]; grind
      have := mul_nn (show 0 ≤ v.2 by omega) (lp_nn hw)
      omega
  refine pos_of_mul hvx ?_
  rw [crs_x]
  rcases hu with hu | ⟨hu, hu2⟩
  · exact Int.add_pos_of_pos_of_nonneg (mul_pos' hu h2) (mul_nn (lp_nn hw) h1)
  · have e : crs u v = -(u.2 * v.1) := by unfold crs; rw [hu]; grind
    have := mul_pos' hu2 hvx
    omega
/-- in a row, not between: not on two sides -/
theorem dot_nn {u v : Pt} (hu : lp u ∨ u = (0, 0)) (hv : lp v ∨ v = (0, 0)) (h : crs u v = 0) : 0 ≤ u.1 * v.1 + u.2 * v.2 := by
  rcases hu with hu | rfl
  · rcases hv with hv | rfl
    · unfold crs at h
      rcases hu with hu | ⟨hu, hu2⟩
      · rcases hv with hv | ⟨hv, hv2⟩
        · have a1 := mul_pos' hu hv
          rcases Int.lt_trichotomy u.2 0 with k | k | k
          · have h1 := Int.mul_neg_of_neg_of_pos k hv
            have h2 : v.2 < 0 := by
              rcases Int.lt_trichotomy v.2 0 with z | z | z
              · exact z
              · rw [z] at h; omega
              · have := mul_pos' hu z; omega
            have := Int.mul_pos_of_neg_of_neg k h2
            omega
          · rw [k]; omega
          · have h1 := mul_pos' k hv
            have h2 : 0 < v.2 := pos_of_mul hu (by omega)
            have := mul_pos' k h2
            omega
        · rw [hv] at h
          have := mul_pos' hu hv2
          omega
      · rcases hv with hv | ⟨hv, hv2⟩
        · have := mul_pos' hu2 hv
          rw [hu] at h
          omega
        · have := mul_pos' hu2 hv2
          rw [hu, hv]
          omega
    · simp
  · simp
end T
/-! plain geometry: chains that rise to the right, and a point added behind all -/
namespace T
/-- s = 1: the lower chain; s = -1: the upper one -/
def sgnd (s : Int) : Prop := s = 1 ∨ s = -1
def Ar (s : Int) (a b c : Pt) : Int := s * area a b c
def Cr (s : Int) (u v : Pt) : Int := s * crs u v
theorem cr_neg (s : Int) (u v : Pt) : Cr s v u = -Cr s u v := by unfold Cr; rw [crs_neg]; grind
theorem cr_vec (s : Int) (u : Pt) (a b : Pt) : Cr s u (vec b a) = -Cr s u (vec a b) := by unfold Cr; rw [crs_vec]; grind
theorem ar_cr (s : Int) (a b c : Pt) : Ar s a b c = Cr s (vec a b) (vec a c) := rfl
theorem ar_cr2 (s : Int) (a b c : Pt) : Ar s a b c = Cr s (vec a b) (vec b c) := by unfold Ar Cr; rw [area_crs2]
theorem cr_le {s : Int} (hs : sgnd s) {u v w : Pt} (hu : lp u) (hv : lp v) (hw : lp w) (h1 : 0 ≤ Cr s u v) (h2 : 0 ≤ Cr s v w) : 0 ≤ Cr s u w := by
  unfold Cr at *
  rcases hs with rfl | rfl
  · rw [Int.one_mul] at *
    exact le_le hu hv hw h1 h2
  · have := le_le hw hv hu (u := w) (v := v) (w := u) (by rw [crs_neg]; omega) (by rw [crs_neg]; omega)
    rw [crs_neg] at this
    omega
theorem cr_ltle {s : Int} (hs : sgnd s) {u v w : Pt} (hu : lp u) (hv : lp v) (hw : lp w) (h1 : 0 < Cr s u v) (h2 : 0 ≤ Cr s v w) : 0 < Cr s u w := by
  unfold Cr at *
  rcases hs with rfl | rfl
  · rw [Int.one_mul] at *
    exact lt_le hu hv hw h1 h2
  · have := le_lt hw hv hu (u := w) (v := v) (w := u) (by rw [crs_neg]; omega) (by rw [crs_neg]; omega)
    rw [crs_neg] at this
    omega
theorem cr_lelt {s : Int} (hs : sgnd s) {u v w : Pt} (hu : lp u) (hv : lp v) (hw : lp w) (h1 : 0 ≤ Cr s u v) (h2 : 0 < Cr s v w) : 0 < Cr s u w := by
  unfold Cr at *
  rcases hs with rfl | rfl
  · rw [Int.one_mul] at *
    exact le_lt hu hv hw h1 h2
  · have := lt_le hw hv hu (u := w) (v := v) (w := u) (by rw [crs_neg]; omega) (by rw [crs_neg]; omega)
    rw [crs_neg] at this
    omega
/-- those that stand behind one another -/
def prs : List Int → List (Int × Int)
  | a :: b :: t => (a, b) :: prs (b :: t)
  | _ => []
theorem prs_cons (a b : Int) (t : List Int) : prs (a :: b :: t) = (a, b) :: prs (b :: t) := rfl
theorem prs_app : ∀ (P : List Int) (c : Int) (Q : List Int), prs (P ++ c :: Q) = prs (P ++ [c]) ++ prs (c :: Q)
  | [], c, Q => rfl
  | [a], c, Q => rfl
  | a :: b :: P, c, Q => by
    show (a, b) :: prs ((b :: P) ++ c :: Q) = ((a, b) :: prs ((b :: P) ++ [c])) ++ _
    rw [prs_app (b :: P) c Q]
    rfl
theorem prs_mem : ∀ {C : List Int} {e : Int × Int}, e ∈ prs C → ∃ P Q, C = P ++ e.1 :: e.2 :: Q
  | a :: b :: t, e, h => by
    rcases List.mem_cons.mp (show e ∈ (a, b) :: prs (b :: t) from h) with rfl | h
    · exact ⟨[], t, rfl⟩
    · obtain ⟨P, Q, e'⟩ := prs_mem h
      exact ⟨a :: P, Q, by rw [e']; rfl⟩
theorem prs_of {P Q : List Int} {a b : Int} : (a, b) ∈ prs (P ++ a :: b :: Q) := by
  rw [prs_app]
  exact List.mem_append.mpr (.inr (List.mem_cons_self ..))
/-- a chain over the points of S -/
structure Chain (s : Int) (p : Int → Pt) (S : Int → Prop) (C : List Int) : Prop where
  up : C.Pairwise fun a b => lx (p a) (p b)
  inS : ∀ x ∈ C, S x
  sup : ∀ e ∈ prs C, ∀ x, S x → 0 ≤ Ar s (p e.1) (p e.2) (p x)
  flat : ∀ e ∈ prs C, ∀ x, S x → Ar s (p e.1) (p e.2) (p x) = 0 → x ∈ C ∧ ¬ (lx (p e.1) (p x) ∧ lx (p x) (p e.2))
  lo : ∀ x, S x → ∀ c P, C = c :: P → ¬ lx (p x) (p c)
  hi : ∀ x, S x → ∀ c P, C = P ++ [c] → ¬ lx (p c) (p x)
section
variable {s : Int} {p : Int → Pt} {S : Int → Prop} {C : List Int} {q : Int}
/-- once seen from q, always -/
theorem seen_on (hs : sgnd s) (hq : ∀ x, S x → lx (p x) (p q)) : ∀ {a b : Int} {t : List Int}, Chain s p S C → (∃ P, C = P ++ a :: b :: t) → Ar s (p a) (p b) (p q) < 0 → ∀ e ∈ prs (a :: b :: t), Ar s (p e.1) (p e.2) (p q) < 0
  | a, b, [], H, ⟨P, eC⟩, h, e, he => by
    rcases List.mem_cons.mp (show e ∈ [(a, b)] from he) with rfl | he
    · exact h
    · cases he
  | a, b, c :: t, H, ⟨P, eC⟩, h, e, he => by
    rcases List.mem_cons.mp (show e ∈ (a, b) :: prs (b :: c :: t) from he) with rfl | he
    · exact h
    · refine seen_on hs hq (a := b) (b := c) (t := t) H ⟨P ++ [a], by rw [eC]; simp⟩ ?_ e he
      have hc : c ∈ C := by rw [eC]; simp
      have hb : b ∈ C := by rw [eC]; simp
      have hpw := H.up
      rw [eC] at hpw
      have hp2 := (List.pairwise_append.mp hpw).2.1
      have ab : lx (p a) (p b) := (List.pairwise_cons.mp hp2).1 b (List.mem_cons_self ..)
      have bc : lx (p b) (p c) := (List.pairwise_cons.mp (List.pairwise_cons.mp hp2).2).1 c (List.mem_cons_self ..)
      have s1 := H.sup (a, b) (by rw [eC]; exact prs_of) c (H.inS c hc)
      rw [ar_cr2] at s1 h
      have h' : 0 < Cr s (vec (p b) (p q)) (vec (p a) (p b)) := by rw [cr_neg]; omega
      have r := cr_ltle hs (lp_vec.mpr (hq b (H.inS b hb))) (lp_vec.mpr ab) (lp_vec.mpr bc) h' s1
      rw [ar_cr, cr_neg]
      omega
/-- where the seen part begins -/
theorem split_at (hs : sgnd s) (hq : ∀ x, S x → lx (p x) (p q)) (H : Chain s p S C) : ∀ (D : List Int), D ≠ [] → (∃ P, C = P ++ D) → ∃ P c Q, D = P ++ c :: Q ∧ (∀ e ∈ prs (P ++ [c]), 0 ≤ Ar s (p e.1) (p e.2) (p q)) ∧ ∀ e ∈ prs (c :: Q), Ar s (p e.1) (p e.2) (p q) < 0
  | [], h, _ => absurd rfl h
  | [a], _, _ => ⟨[], a, [], rfl, fun e he => (nomatch he), fun e he => (nomatch he)⟩
  | a :: b :: t, _, ⟨P0, e0⟩ => by
    by_cases h : Ar s (p a) (p b) (p q) < 0
    · exact ⟨[], a, b :: t, rfl, fun e he => (nomatch he), seen_on hs hq H ⟨P0, e0⟩ h⟩
    · obtain ⟨P, c, Q, e1, h1, h2⟩ := split_at hs hq H (b :: t) (by simp) ⟨P0 ++ [a], by rw [e0]; simp⟩
      refine ⟨a :: P, c, Q, by rw [e1]; rfl, fun e he => ?_, h2⟩
      have hd : ∃ T, P ++ [c] = b :: T := by
        cases P with
        | nil => cases e1; exact ⟨[], rfl⟩
        | cons x P' => cases e1; exact ⟨_, rfl⟩
      obtain ⟨T, eT⟩ := hd
      rw [List.cons_append, eT, prs_cons] at he
      rcases List.mem_cons.mp he with rfl | he
      · exact Int.not_lt.mp h
      · exact h1 e (by rw [eT]; exact he)
/-- the chain with q behind it -/
theorem Chain.step (hs : sgnd s) (inj : ∀ x y, S x → S y → p x = p y → x = y) (hq : ∀ x, S x → lx (p x) (p q)) {P Q : List Int} {c : Int} (H : Chain s p S (P ++ c :: Q)) (k : ∀ e ∈ prs (P ++ [c]), 0 ≤ Ar s (p e.1) (p e.2) (p q)) (v : ∀ e ∈ prs (c :: Q), Ar s (p e.1) (p e.2) (p q) < 0) :
    Chain s p (fun x => S x ∨ x = q) (P ++ [c, q]) ∧ ∀ x, S x → (lx (p c) (p x) → 0 < Ar s (p c) (p q) (p x)) := by
  have hcC : c ∈ P ++ c :: Q := by simp
  have Sc := H.inS c hcC
  have wq := lp_vec.mpr (hq c Sc)
  have up1 := (List.pairwise_append.mp H.up)
  have new1 : ∀ x, S x → lx (p c) (p x) → 0 < Ar s (p c) (p q) (p x) := fun x Sx hx => by
    cases Q with
    | nil => exact absurd hx (H.hi x Sx c P rfl)
    | cons d Q =>
      have v1 := v (c, d) (List.mem_cons_self ..)
      have s1 := H.sup (c, d) prs_of x Sx
      have cd : lx (p c) (p d) := (List.pairwise_cons.mp up1.2.1).1 d (List.mem_cons_self ..)
      rw [ar_cr] at v1 s1 ⊢
      have v2 : 0 < Cr s (vec (p c) (p q)) (vec (p c) (p d)) := by rw [cr_neg]; dsimp at v1; omega
      exact cr_ltle hs wq (lp_vec.mpr cd) (lp_vec.mpr hx) v2 s1
  have new2 : ∀ x, S x → lx (p x) (p c) → 0 ≤ Ar s (p c) (p q) (p x) ∧ (Ar s (p c) (p q) (p x) = 0 → x ∈ P) := fun x Sx hx => by
    rcases List.eq_nil_or_concat P with rfl | ⟨P', b, rfl⟩
    · exact absurd hx (H.lo x Sx c Q rfl)
    · rw [List.concat_eq_append] at *
      have eb : (b, c) ∈ prs (P' ++ [b] ++ [c]) := by rw [List.append_assoc]; exact prs_of
      have k1 := k (b, c) eb
      have eb2 : (b, c) ∈ prs (P' ++ [b] ++ c :: Q) := by rw [List.append_assoc]; exact prs_of
      have s1 := H.sup (b, c) eb2 x Sx
      have bc : lx (p b) (p c) := up1.2.2 b (by simp) c (List.mem_cons_self ..)
      rw [ar_cr2] at k1 s1
      have s2 : 0 ≤ Cr s (vec (p x) (p c)) (vec (p b) (p c)) := by rw [cr_neg, cr_vec]; dsimp at s1; omega
      have r := cr_le hs (lp_vec.mpr hx) (lp_vec.mpr bc) wq s2 k1
      have e1 : Ar s (p c) (p q) (p x) = Cr s (vec (p x) (p c)) (vec (p c) (p q)) := by rw [ar_cr]; unfold Cr crs vec; grind
      refine ⟨by rw [e1]; exact r, fun z => ?_⟩
      have z2 : Cr s (vec (p x) (p c)) (vec (p b) (p c)) = 0 := by
        rcases Int.lt_or_eq_of_le s2 with z3 | z3
        · have := cr_ltle hs (lp_vec.mpr hx) (lp_vec.mpr bc) wq z3 k1
          omega
        · exact z3.symm
      have z4 : Ar s (p b) (p c) (p x) = 0 := by rw [ar_cr2, cr_vec, cr_neg]; omega
      have hm := (H.flat (b, c) eb2 x Sx z4).1
      rcases List.mem_append.mp hm with hm | hm
      · exact hm
      · rcases List.mem_cons.mp hm with rfl | hm
        · exact absurd hx (lx_irrefl _)
        · exact (lx_asymm hx ((List.pairwise_cons.mp up1.2.1).1 x hm)).elim
  have old : ∀ e ∈ prs (P ++ [c]), e ∈ prs (P ++ c :: Q) := fun e he => by rw [prs_app]; exact List.mem_append.mpr (.inl he)
  have mem1 : ∀ e ∈ prs (P ++ [c]), S e.1 ∧ S e.2 := fun e he => by
    obtain ⟨P1, Q1, e1⟩ := prs_mem (old e he)
    exact ⟨H.inS _ (by rw [e1]; simp), H.inS _ (by rw [e1]; simp)⟩
  have edge : ∀ e ∈ prs (P ++ [c, q]), e ∈ prs (P ++ [c]) ∨ e = (c, q) := fun e he => by
    rw [prs_app] at he
    rcases List.mem_append.mp he with he | he
    · exact .inl he
    · rcases List.mem_cons.mp (show e ∈ [(c, q)] from he) with h | h
      · exact .inr h
      · cases h
  refine ⟨⟨?_, ?_, ?_, ?_, ?_, ?_⟩, new1⟩
  · rw [show P ++ [c, q] = (P ++ [c]) ++ [q] by simp]
    have hpc : (P ++ [c]).Pairwise fun a b => lx (p a) (p b) := by
      have := H.up
      rw [show P ++ c :: Q = (P ++ [c]) ++ Q by simp] at this
      exact (List.pairwise_append.mp this).1
    refine List.pairwise_append.mpr ⟨hpc, List.pairwise_singleton .., fun a ha b hb => ?_⟩
    rw [List.mem_singleton.mp hb]
    exact hq a (H.inS a (by rcases List.mem_append.mp ha with h | h; exact List.mem_append.mpr (.inl h); rw [List.mem_singleton.mp h]; exact hcC))
  · intro x hx
    rcases List.mem_append.mp hx with h | h
    · exact .inl (H.inS x (List.mem_append.mpr (.inl h)))
    · rcases List.mem_cons.mp h with rfl | h
      · exact .inl Sc
      · exact .inr (List.mem_singleton.mp h)
  · intro e he x hx
    rcases edge e he with he' | rfl
    · rcases hx with Sx | rfl
      · exact H.sup e (old e he') x Sx
      · exact k e he'
    · rcases hx with Sx | rfl
      · by_cases h1 : lx (p c) (p x)
        · exact Int.le_of_lt (new1 x Sx h1)
        · by_cases h2 : lx (p x) (p c)
          · exact (new2 x Sx h2).1
          · rw [lx_total h1 h2]
            unfold Ar
            rw [area_aba]
            omega
      · unfold Ar
        rw [area_abb]
        omega
  · intro e he x hx hz
    rcases edge e he with he' | rfl
    · rcases hx with Sx | rfl
      · obtain ⟨h1, h2⟩ := H.flat e (old e he') x Sx hz
        refine ⟨?_, h2⟩
        rcases List.mem_append.mp h1 with h1 | h1
        · exact List.mem_append.mpr (.inl h1)
        · rcases List.mem_cons.mp h1 with rfl | h1
          · simp
          · exfalso
            -- x stands in the seen part
            obtain ⟨Q1, Q2, eQ⟩ := List.append_of_mem h1
            obtain ⟨z, hz1, hz2⟩ : ∃ z, (z, x) ∈ prs (c :: Q) ∧ S z := by
              rcases List.eq_nil_or_concat Q1 with rfl | ⟨Q1', z, rfl⟩
              · exact ⟨c, by rw [eQ]; exact List.mem_cons_self .., Sc⟩
              · rw [List.concat_eq_append] at eQ
                refine ⟨z, ?_, H.inS z (by rw [eQ]; simp)⟩
                rw [eQ, show c :: (Q1' ++ [z] ++ x :: Q2) = (c :: Q1') ++ z :: x :: Q2 by simp]
                exact prs_of
            have v1 := v _ hz1
            have zx : lx (p z) (p x) := by
              obtain ⟨P1, P2, e1⟩ := prs_mem hz1
              have := up1.2.1
              rw [e1] at this
              exact (List.pairwise_cons.mp (List.pairwise_append.mp this).2.1).1 x (List.mem_cons_self ..)
            have s1 := H.sup e (old e he') z hz2
            have k1 := k e he'
            have ab : lx (p e.1) (p e.2) := by
              obtain ⟨P1, P2, e1⟩ := prs_mem (old e he')
              have := H.up
              rw [e1] at this
              exact (List.pairwise_cons.mp (List.pairwise_append.mp this).2.1).1 e.2 (List.mem_cons_self ..)
            rw [ar_cr2] at v1 s1 k1 hz
            dsimp at v1
            have w1 : 0 < Cr s (vec (p x) (p q)) (vec (p z) (p x)) := by rw [cr_neg]; omega
            have u1 : Cr s (vec (p e.1) (p e.2)) (vec (p e.2) (p q)) = Cr s (vec (p e.1) (p e.2)) (vec (p e.2) (p x)) + Cr s (vec (p e.1) (p e.2)) (vec (p x) (p q)) := by unfold Cr crs vec; grind
            have u2 : Cr s (vec (p e.1) (p e.2)) (vec (p e.2) (p z)) = Cr s (vec (p e.1) (p e.2)) (vec (p e.2) (p x)) - Cr s (vec (p e.1) (p e.2)) (vec (p z) (p x)) := by unfold Cr crs vec; grind
            have := cr_lelt hs (lp_vec.mpr ab) (lp_vec.mpr (hq x Sx)) (lp_vec.mpr zx) (by omega) w1
            omega
      · refine ⟨by simp, fun ⟨_, h2⟩ => lx_asymm h2 (hq _ (mem1 e he').2)⟩
    · rcases hx with Sx | rfl
      · by_cases h1 : lx (p c) (p x)
        · have := new1 x Sx h1
          dsimp at hz
          omega
        · refine ⟨?_, fun ⟨h2, _⟩ => h1 h2⟩
          by_cases h2 : lx (p x) (p c)
          · exact List.mem_append.mpr (.inl ((new2 x Sx h2).2 hz))
          · rw [inj x c Sx Sc (lx_total h2 h1)]
            simp
      · exact ⟨by simp, fun ⟨_, h2⟩ => lx_irrefl _ h2⟩
  · intro x hx c' P' e'
    have hc' : c' ∈ P ++ c :: Q ∧ ∃ P'', P ++ c :: Q = c' :: P'' := by
      cases P with
      | nil => cases e'; exact ⟨hcC, _, rfl⟩
      | cons h t => cases e'; exact ⟨by simp, _, rfl⟩
    obtain ⟨m, P'', e2⟩ := hc'
    rcases hx with Sx | rfl
    · exact H.lo x Sx c' P'' e2
    · exact fun h => lx_asymm h (hq _ (H.inS _ m))
  · intro x hx c' P' e'
    have e3 : (P ++ [c]) ++ [q] = P' ++ [c'] := by rw [← e']; simp
    have e4 := (List.append_inj' e3 rfl).2
    cases e4
    rcases hx with Sx | rfl
    · exact fun h => lx_asymm h (hq x Sx)
    · exact lx_irrefl _
end
end T
/-! plain geometry: the hull as two chains, a point added behind all -/
namespace T
def swp (e : Int × Int) : Int × Int := (e.2, e.1)
theorem prs_rev : ∀ C : List Int, prs C.reverse = ((prs C).map swp).reverse
  | [] => rfl
  | [a] => rfl
  | a :: b :: t => by
    have ih := prs_rev (b :: t)
    have e : (a :: b :: t).reverse = t.reverse ++ b :: [a] := by simp
    rw [e, prs_app, prs_cons a b t, List.map_cons, List.reverse_cons, ← ih]
    congr 1
    simp
/-- round a list: each and the next, the last and the first -/
def cyc (A : List Int) : List (Int × Int) := prs (A ++ [A.headD 0])
structure Hull (p : Int → Pt) (S : Int → Prop) (U Lo : List Int) (l r : Int) : Prop where
  low : Chain 1 p S (l :: Lo ++ [r])
  upp : Chain (-1) p S (l :: U.reverse ++ [r])
  nd : (U ++ l :: Lo ++ [r]).Nodup
  fat : U ≠ [] ∨ Lo ≠ []
section
variable {p : Int → Pt} {S : Int → Prop} {U Lo : List Int} {l r q : Int}
theorem Hull.seen (H : Hull p S U Lo l r) (hq : ∀ x, S x → lx (p x) (p q)) {b b2 : Int} {P P2 : List Int} (e1 : l :: Lo ++ [r] = P ++ [b, r]) (e2 : l :: U.reverse ++ [r] = P2 ++ [b2, r]) (k1 : 0 ≤ Ar 1 (p b) (p r) (p q)) (k2 : 0 ≤ Ar (-1) (p b2) (p r) (p q)) : False := by
  have i1 : l :: Lo = P ++ [b] := List.append_inj_left' (show (l :: Lo) ++ [r] = (P ++ [b]) ++ [r] by simpa using e1) rfl
  have i2 : l :: U.reverse = P2 ++ [b2] := List.append_inj_left' (show (l :: U.reverse) ++ [r] = (P2 ++ [b2]) ++ [r] by simpa using e2) rfl
  have mb : b ∈ l :: Lo := by rw [i1]; simp
  have mb2 : b2 ∈ l :: U.reverse := by rw [i2]; simp
  have Sb := H.low.inS b (by simp [List.mem_append.mpr (.inl mb)] <;> (rcases List.mem_cons.mp mb with h | h <;> simp [h]))
  have Sb2 := H.upp.inS b2 (by rcases List.mem_cons.mp mb2 with h | h <;> simp_all)
  have Sr := H.low.inS r (by simp)
  have pe1 : (b, r) ∈ prs (l :: Lo ++ [r]) := by rw [e1]; exact prs_of
  have pe2 : (b2, r) ∈ prs (l :: U.reverse ++ [r]) := by rw [e2]; exact prs_of
  have br : lx (p b) (p r) := by
    have := H.low.up
    rw [e1] at this
    exact (List.pairwise_cons.mp (List.pairwise_append.mp this).2.1).1 r (List.mem_cons_self ..)
  have b2r : lx (p b2) (p r) := by
    have := H.upp.up
    rw [e2] at this
    exact (List.pairwise_cons.mp (List.pairwise_append.mp this).2.1).1 r (List.mem_cons_self ..)
  have s1 := H.low.sup _ pe1 b2 Sb2
  rw [ar_cr2] at k1 k2 s1
  unfold Cr at k1 k2 s1
  dsimp at s1
  rw [crs_vec] at s1
  have t1 : 0 ≤ crs (vec (p r) (p q)) (vec (p b2) (p r)) := by rw [crs_neg]; omega
  have t2 := le_le (lp_vec.mpr br) (lp_vec.mpr (hq r Sr)) (lp_vec.mpr b2r) (by omega) t1
  have z : crs (vec (p b) (p r)) (vec (p b2) (p r)) = 0 := by omega
  have f1 := (H.low.flat _ pe1 b2 Sb2 (by rw [ar_cr2]; unfold Cr; dsimp; rw [crs_vec]; omega)).1
  have f2 := (H.upp.flat _ pe2 b Sb (by rw [ar_cr2]; unfold Cr; dsimp; rw [crs_vec, crs_neg]; omega)).1
  have nd := H.nd
  have ndl : (l :: Lo ++ [r]).Nodup := by
    have := (List.nodup_append.mp (show (U ++ (l :: Lo ++ [r])).Nodup by simpa using nd)).2.1
    exact this
  have dis : ∀ x ∈ U, x ∉ l :: Lo ++ [r] := fun x hx hm => (List.nodup_append.mp (show (U ++ (l :: Lo ++ [r])).Nodup by simpa using nd)).2.2 x hx x hm rfl
  have hb2 : b2 = l := by
    rcases List.mem_cons.mp mb2 with h | h
    · exact h
    · exact absurd f1 (dis b2 (List.mem_reverse.mp h))
  have hb : b = l := by
    rcases List.mem_cons.mp mb with h | h
    · exact h
    · rcases List.mem_cons.mp (show b ∈ l :: (U.reverse ++ [r]) from f2) with g | g
      · exact g
      · rcases List.mem_append.mp g with g | g
        · exact absurd (show b ∈ l :: Lo ++ [r] by simp [h]) (dis b (List.mem_reverse.mp g))
        · rw [List.mem_singleton.mp g] at br
          exact absurd br (lx_irrefl _)
  have hLo : Lo = [] := by
    rcases List.eq_nil_or_concat Lo with h | ⟨L', y, rfl⟩
    · exact h
    · rw [List.concat_eq_append] at *
      have : l :: L' = P ∧ [y] = [b] := List.append_inj' (show (l :: L') ++ [y] = P ++ [b] by simpa using i1) rfl
      have ey : y = b := by simpa using this.2
      have := (List.nodup_cons.mp ndl).1
      rw [hb] at ey
      exact absurd (show l ∈ L' ++ [y] ++ [r] by simp [ey]) (by simpa using this)
  have hU : U = [] := by
    rcases List.eq_nil_or_concat U.reverse with h | ⟨L', y, h⟩
    · simpa using h
    · rw [List.concat_eq_append] at h
      rw [h] at i2
      have : l :: L' = P2 ∧ [y] = [b2] := List.append_inj' (show (l :: L') ++ [y] = P2 ++ [b2] by simpa using i2) rfl
      have ey : y = b2 := by simpa using this.2
      have hy : y ∈ U := List.mem_reverse.mp (by rw [h]; simp)
      rw [ey, hb2] at hy
      exact absurd (show l ∈ l :: Lo ++ [r] by simp) (dis l hy)
  rcases H.fat with h | h
  · exact h hU
  · exact h hLo
theorem Hull.kept (H : Hull p S U Lo l r) (hq : ∀ x, S x → lx (p x) (p q)) {d d2 : Int} {Q Q2 : List Int} (e1 : l :: Lo ++ [r] = l :: d :: Q) (e2 : l :: U.reverse ++ [r] = l :: d2 :: Q2) (k1 : Ar 1 (p l) (p d) (p q) < 0) (k2 : Ar (-1) (p l) (p d2) (p q) < 0) : False := by
  have Sl := H.low.inS l (by simp)
  have Sd2 := H.upp.inS d2 (by rw [e2]; simp)
  have s1 := H.low.sup (l, d) (by rw [e1]; exact List.mem_cons_self ..) d2 Sd2
  have ld : lx (p l) (p d) := by
    have := H.low.up
    rw [e1] at this
    exact (List.pairwise_cons.mp this).1 d (List.mem_cons_self ..)
  have ld2 : lx (p l) (p d2) := by
    have := H.upp.up
    rw [e2] at this
    exact (List.pairwise_cons.mp this).1 d2 (List.mem_cons_self ..)
  rw [ar_cr] at k1 k2 s1
  unfold Cr at k1 k2 s1
  dsimp at s1
  have t1 : 0 < crs (vec (p l) (p q)) (vec (p l) (p d)) := by rw [crs_neg]; omega
  have t2 := lt_le (lp_vec.mpr ld2) (lp_vec.mpr (hq l Sl)) (lp_vec.mpr ld) (by omega) (Int.le_of_lt t1)
  rw [crs_neg] at t2
  omega
theorem cons_of {P : List Int} {c l : Int} {M Q : List Int} (e : l :: M = P ++ c :: Q) : ∃ L', P ++ [c] = l :: L' ∧ M = L' ++ Q := by
  cases P with
  | nil => cases e; exact ⟨[], rfl, rfl⟩
  | cons h P' => cases e; exact ⟨P' ++ [c], rfl, by simp⟩
theorem filter_all {α : Type} {f : α → Bool} {l : List α} (h : ∀ x ∈ l, f x = true) : l.filter f = l := List.filter_eq_self.mpr h
theorem filter_none {α : Type} {f : α → Bool} {l : List α} (h : ∀ x ∈ l, f x = false) : l.filter f = [] := List.filter_eq_nil_iff.mpr fun x hx => by rw [h x hx]; exact Bool.false_ne_true
/-- not seen from q -/
def keep (p : Int → Pt) (q : Int) (e : Int × Int) : Bool := decide (0 ≤ area (p e.1) (p e.2) (p q))
theorem Hull.step (H : Hull p S U Lo l r) (inj : ∀ x y, S x → S y → p x = p y → x = y) (hq : ∀ x, S x → lx (p x) (p q)) :
    ∃ U' Lo' X Y, Hull p (fun x => S x ∨ x = q) U' Lo' l q ∧ (cyc (U ++ l :: Lo ++ [r])).filter (keep p q) = X ++ Y ∧ Y ++ X = prs (U' ++ l :: Lo') ∧ Y ≠ [] := by
  obtain ⟨P, c, Q, eL, kL, vL⟩ := split_at (.inl rfl) hq H.low (l :: Lo ++ [r]) (by simp) ⟨[], rfl⟩
  obtain ⟨P2, c2, Q2, eU, kU, vU⟩ := split_at (.inr rfl) hq H.upp (l :: U.reverse ++ [r]) (by simp) ⟨[], rfl⟩
  have cL := (Chain.step (.inl rfl) inj hq (by rw [← eL]; exact H.low) kL vL).1
  have cU := (Chain.step (.inr rfl) inj hq (by rw [← eU]; exact H.upp) kU vU).1
  obtain ⟨Lo', l1, l2⟩ := cons_of (M := Lo ++ [r]) eL
  obtain ⟨R', u1, u2⟩ := cons_of (M := U.reverse ++ [r]) eU
  have qS : ∀ x, S x → x ≠ q := fun x h e => lx_irrefl _ (by have := hq x h; rw [e] at this; exact this)
  have some_seen : Q = [] → Q2 = [] → False := fun h1 h2 => by
    subst h1 h2
    have hp : ∃ P' b, P = P' ++ [b] := by
      rcases List.eq_nil_or_concat P with rfl | ⟨P', b, h⟩
      · exact absurd (congrArg List.length eL) (by simp)
      · exact ⟨P', b, by rw [h, List.concat_eq_append]⟩
    have hp2 : ∃ P' b, P2 = P' ++ [b] := by
      rcases List.eq_nil_or_concat P2 with rfl | ⟨P', b, h⟩
      · exact absurd (congrArg List.length eU) (by simp)
      · exact ⟨P', b, by rw [h, List.concat_eq_append]⟩
    obtain ⟨P', b, rfl⟩ := hp
    obtain ⟨P2', b2, rfl⟩ := hp2
    have cr : c = r := by
      have := (List.append_inj' (show (l :: Lo) ++ [r] = (P' ++ [b]) ++ [c] by simpa using eL) rfl).2
      simpa using this.symm
    have cr2 : c2 = r := by
      have := (List.append_inj' (show (l :: U.reverse) ++ [r] = (P2' ++ [b2]) ++ [c2] by simpa using eU) rfl).2
      simpa using this.symm
    subst cr
    subst cr2
    exact H.seen hq (P := P') (P2 := P2') (by simpa using eL) (by simpa using eU) (kL (b, c2) (by rw [List.append_assoc]; exact prs_of)) (kU (b2, c2) (by rw [List.append_assoc]; exact prs_of))
  have fat : R' ≠ [] ∨ Lo' ≠ [] := by
    by_cases h1 : Lo' = []
    · by_cases h2 : R' = []
      · exfalso
        subst h1 h2
        have hc : P = [] ∧ c = l := by
          cases P with
          | nil => exact ⟨rfl, by simpa using l1⟩
          | cons h t => exact absurd (congrArg List.length l1) (by simp)
        have hc2 : P2 = [] ∧ c2 = l := by
          cases P2 with
          | nil => exact ⟨rfl, by simpa using u1⟩
          | cons h t => exact absurd (congrArg List.length u1) (by simp)
        obtain ⟨rfl, rfl⟩ := hc
        obtain ⟨rfl, rfl⟩ := hc2
        cases Q with
        | nil => exact absurd (congrArg List.length l2) (by simp)
        | cons d Q =>
          cases Q2 with
          | nil => exact absurd (congrArg List.length u2) (by simp)
          | cons d2 Q2 => exact H.kept hq eL eU (vL (_, d) (List.mem_cons_self ..)) (vU (_, d2) (List.mem_cons_self ..))
      · exact .inl h2
    · exact .inr h1
  have eW : r :: (U ++ l :: Lo ++ [r]) = Q2.reverse ++ (R'.reverse ++ l :: Lo') ++ Q := by
    have h1 : r :: U = Q2.reverse ++ R'.reverse := by
      have := congrArg List.reverse u2
      simpa using this
    have h2 : r :: (U ++ l :: Lo ++ [r]) = (r :: U) ++ l :: (Lo ++ [r]) := by simp
    rw [h2, h1, l2]
    simp
  have ndG : (R'.reverse ++ l :: Lo').Nodup := by
    have nd := H.nd
    cases hQ2 : Q2 with
    | nil =>
      have hQ : Q ≠ [] := fun h => some_seen h hQ2
      obtain ⟨Q0, y, hy⟩ : ∃ Q0 y, Q = Q0 ++ [y] := by
        rcases List.eq_nil_or_concat Q with h | ⟨Q0, y, h⟩
        · exact absurd h hQ
        · exact ⟨Q0, y, by rw [h, List.concat_eq_append]⟩
      have e3 := List.append_inj' (show Lo ++ [r] = (Lo' ++ Q0) ++ [y] by rw [l2, hy]; simp) rfl
      have e4 : R'.reverse = r :: U := by
        have := congrArg List.reverse u2
        rw [hQ2] at this
        simpa using this.symm
      rw [e4]
      rw [e3.1] at nd
      refine List.nodup_cons.mpr ⟨fun hm => ?_, ?_⟩
      · have := (List.nodup_append.mp nd).2.2 r (by
          rcases List.mem_append.mp hm with h | h
          · exact List.mem_append.mpr (.inl h)
          · exact List.mem_append.mpr (.inr (by rcases List.mem_cons.mp h with h | h; exact h ▸ List.mem_cons_self ..; exact List.mem_cons_of_mem _ (List.mem_append.mpr (.inl h))))) r (by simp)
        exact this rfl
      · refine List.Nodup.sublist ?_ nd
        rw [show U ++ l :: (Lo' ++ Q0) ++ [r] = (U ++ l :: Lo') ++ (Q0 ++ [r]) by simp]
        exact List.sublist_append_left ..
    | cons y T =>
      obtain ⟨T', z, hz⟩ : ∃ T' z, y :: T = T' ++ [z] := by
        rcases List.eq_nil_or_concat (y :: T) with h | ⟨Q0, y', h⟩
        · cases h
        · exact ⟨Q0, y', by rw [h, List.concat_eq_append]⟩
      have e3 : r :: U = (z :: T'.reverse) ++ R'.reverse := by
        have := congrArg List.reverse u2
        rw [hQ2, hz] at this
        simpa using this
      have e4 : U = T'.reverse ++ R'.reverse := by cases e3; rfl
      refine List.Nodup.sublist ?_ nd
      rw [e4, show T'.reverse ++ R'.reverse ++ l :: Lo ++ [r] = T'.reverse ++ (R'.reverse ++ l :: (Lo ++ [r])) by simp, l2, show R'.reverse ++ l :: (Lo' ++ Q) = (R'.reverse ++ l :: Lo') ++ Q by simp]
      exact (List.sublist_append_left ..).trans (List.sublist_append_right ..)
  have hull : Hull p (fun x => S x ∨ x = q) R'.reverse Lo' l q := by
    refine ⟨?_, ?_, ?_, ?_⟩
    · rw [show P ++ [c, q] = (P ++ [c]) ++ [q] by simp, l1] at cL
      exact cL
    · rw [List.reverse_reverse]
      rw [show P2 ++ [c2, q] = (P2 ++ [c2]) ++ [q] by simp, u1] at cU
      exact cU
    · refine List.nodup_append.mpr ⟨ndG, by simp, fun a ha b hb e => ?_⟩
      rw [List.mem_singleton.mp hb] at e
      refine qS a ?_ e
      have ma : a ∈ r :: (U ++ l :: Lo ++ [r]) := by rw [eW]; exact List.mem_append.mpr (.inl (List.mem_append.mpr (.inr ha)))
      rcases List.mem_cons.mp ma with rfl | ma
      · exact H.low.inS _ (by simp)
      · rcases List.mem_append.mp (show a ∈ U ++ (l :: Lo ++ [r]) by simpa using ma) with h | h
        · exact H.upp.inS a (by simp [h])
        · exact H.low.inS a h
    · rcases fat with h | h
      · exact .inl (by simpa using h)
      · exact .inr h
  have g1 : R'.reverse ++ l :: Lo' = c2 :: (P2.reverse ++ Lo') := by
    have := congrArg List.reverse u1
    have e : R'.reverse ++ [l] = c2 :: P2.reverse := by simpa using this.symm
    rw [show R'.reverse ++ l :: Lo' = (R'.reverse ++ [l]) ++ Lo' by simp, e]
    rfl
  have g2 : R'.reverse ++ l :: Lo' = (R'.reverse ++ P) ++ [c] := by rw [← l1]; simp
  have fW : (prs (r :: (U ++ l :: Lo ++ [r]))).filter (keep p q) = prs (R'.reverse ++ l :: Lo') := by
    have d1 : prs (r :: (U ++ l :: Lo ++ [r])) = prs (Q2.reverse ++ [c2]) ++ (prs (R'.reverse ++ l :: Lo') ++ prs (c :: Q)) := by
      rw [eW, List.append_assoc, g1, List.cons_append, prs_app, ← List.cons_append, ← g1, g2, List.append_assoc (R'.reverse ++ P)]
      exact congrArg _ (prs_app _ c Q)
    rw [d1, List.filter_append, List.filter_append, filter_none (l := prs (Q2.reverse ++ [c2])), filter_none (l := prs (c :: Q)), filter_all (l := prs (R'.reverse ++ l :: Lo'))]
    · simp
    · intro e he
      rw [prs_app] at he
      refine decide_eq_true ?_
      rcases List.mem_append.mp he with he | he
      · have e1 : R'.reverse ++ [l] = (P2 ++ [c2]).reverse := by rw [u1]; simp
        rw [e1, prs_rev] at he
        obtain ⟨e', he', rfl⟩ := List.mem_map.mp (List.mem_reverse.mp he)
        have := kU e' he'
        unfold Ar at this
        unfold swp
        dsimp
        rw [area_flip]
        omega
      · rw [← l1] at he
        have := kL e he
        unfold Ar at this
        omega
    · intro e he
      have := vL e he
      unfold Ar at this
      exact decide_eq_false (by omega)
    · intro e he
      have e1 : Q2.reverse ++ [c2] = (c2 :: Q2).reverse := by simp
      rw [e1, prs_rev] at he
      obtain ⟨e', he', rfl⟩ := List.mem_map.mp (List.mem_reverse.mp he)
      have := vU e' he'
      unfold Ar at this
      refine decide_eq_false ?_
      unfold swp
      dsimp
      rw [area_flip]
      omega
  obtain ⟨h0, t0, e0⟩ : ∃ h0 t0, U ++ l :: Lo ++ [r] = h0 :: t0 := by
    cases U with
    | nil => exact ⟨l, _, rfl⟩
    | cons a b => exact ⟨a, _, rfl⟩
  have ec : cyc (U ++ l :: Lo ++ [r]) = prs (U ++ l :: Lo ++ [r]) ++ [(r, h0)] := by
    unfold cyc
    rw [show (U ++ l :: Lo ++ [r]).headD 0 = h0 by rw [e0]; rfl, show U ++ l :: Lo ++ [r] ++ [h0] = (U ++ l :: Lo) ++ r :: [h0] by simp, prs_app]
    rfl
  have ew : prs (r :: (U ++ l :: Lo ++ [r])) = (r, h0) :: prs (U ++ l :: Lo ++ [r]) := by
    rw [e0]
    rfl
  rw [ew] at fW
  rw [ec, List.filter_append]
  by_cases hk : keep p q (r, h0) = true
  · rw [List.filter_cons_of_pos hk] at fW
    exact ⟨R'.reverse, Lo', _, [(r, h0)], hull, by rw [List.filter_cons_of_pos hk]; rfl, fW, by simp⟩
  · rw [List.filter_cons_of_neg hk] at fW
    refine ⟨R'.reverse, Lo', [], (prs (U ++ l :: Lo ++ [r])).filter (keep p q), hull, by rw [List.filter_cons_of_neg hk, List.filter_nil, List.append_nil, List.nil_append], by rw [List.append_nil]; exact fW, ?_⟩
    rw [fW]
    intro z
    have : 2 ≤ (R'.reverse ++ l :: Lo').length := by
      rcases fat with h | h
      · have : 0 < R'.length := List.length_pos_iff.mpr h
        simp
        omega
      · have : 0 < Lo'.length := List.length_pos_iff.mpr h
        simp
        omega
    match hG : R'.reverse ++ l :: Lo', this with
    | a :: b :: t, _ =>
      rw [hG] at z
      cases z
end
end T
/-! plain geometry: the first triangles' hull; what a hull says of all points -/
namespace T
theorem prs_between {p : Int → Pt} {C : List Int} (h : C.Pairwise fun a b => lx (p a) (p b)) {e : Int × Int} (he : e ∈ prs C) {x : Int} (hx : x ∈ C) : ¬ (lx (p e.1) (p x) ∧ lx (p x) (p e.2)) := by
  obtain ⟨P, Q, rfl⟩ := prs_mem he
  intro ⟨h1, h2⟩
  have hp := List.pairwise_append.mp h
  rcases List.mem_append.mp hx with m | m
  · exact lx_asymm h1 (hp.2.2 x m e.1 (List.mem_cons_self ..))
  · rcases List.mem_cons.mp m with rfl | m
    · exact lx_irrefl _ h1
    · rcases List.mem_cons.mp m with rfl | m
      · exact lx_irrefl _ h2
      · exact lx_asymm h2 ((List.pairwise_cons.mp (List.pairwise_cons.mp hp.2.1).2).1 x m)
theorem prs_lx {p : Int → Pt} {C : List Int} (h : C.Pairwise fun a b => lx (p a) (p b)) {e : Int × Int} (he : e ∈ prs C) : lx (p e.1) (p e.2) := by
  obtain ⟨P, Q, rfl⟩ := prs_mem he
  exact (List.pairwise_cons.mp (List.pairwise_append.mp h).2.1).1 e.2 (List.mem_cons_self ..)
theorem prs_in {C : List Int} {e : Int × Int} (he : e ∈ prs C) : e.1 ∈ C ∧ e.2 ∈ C := by
  obtain ⟨P, Q, e'⟩ := prs_mem he
  rw [e']
  exact ⟨by simp, by simp⟩
section
variable {s : Int} {p : Int → Pt} {o0 o1 z : Int} {R : List Int}
/-- all in one row, and z beside it -/
theorem row_pos (hs : sgnd s) (up : (o0 :: o1 :: R ++ [z]).Pairwise fun a b => lx (p a) (p b)) (flat : ∀ x ∈ R, area (p o0) (p o1) (p x) = 0) (hz : 0 < Ar s (p o0) (p o1) (p z)) {a b : Int} (ha : a ∈ o0 :: o1 :: R) (hb : b ∈ o0 :: o1 :: R) (ab : lx (p a) (p b)) : 0 < Ar s (p a) (p b) (p z) := by
  have hp := List.pairwise_append.mp up
  have bz : lx (p b) (p z) := hp.2.2 b hb z (by simp)
  have d01 : lx (p o0) (p o1) := (List.pairwise_cons.mp hp.1).1 o1 (List.mem_cons_self ..)
  have f : ∀ x ∈ o0 :: o1 :: R, crs (vec (p o0) (p o1)) (vec (p o0) (p x)) = 0 := fun x hx => by
    rcases List.mem_cons.mp hx with rfl | hx
    · unfold crs vec; grind
    · rcases List.mem_cons.mp hx with rfl | hx
      · unfold crs; grind
      · have := flat x hx
        rwa [area_crs] at this
  have fa := f a ha
  have fb := f b hb
  have u0 : Cr s (vec (p a) (p b)) (vec (p o0) (p o1)) = 0 := by
    have : crs (vec (p a) (p b)) (vec (p o0) (p o1)) = crs (vec (p o0) (p o1)) (vec (p o0) (p a)) - crs (vec (p o0) (p o1)) (vec (p o0) (p b)) := by unfold crs vec; grind
    unfold Cr
    rw [this, fa, fb]
    simp
  have w0 : 0 < Cr s (vec (p o0) (p o1)) (vec (p b) (p z)) := by
    have : crs (vec (p o0) (p o1)) (vec (p b) (p z)) = crs (vec (p o0) (p o1)) (vec (p o0) (p z)) - crs (vec (p o0) (p o1)) (vec (p o0) (p b)) := by unfold crs vec; grind
    unfold Cr
    rw [this, fb, Int.sub_zero]
    exact hz
  rw [ar_cr2]
  exact cr_lelt hs (lp_vec.mpr ab) (lp_vec.mpr d01) (lp_vec.mpr bz) (by omega) w0
theorem chain_row (hs : sgnd s) (up : (o0 :: o1 :: R ++ [z]).Pairwise fun a b => lx (p a) (p b)) (flat : ∀ x ∈ R, area (p o0) (p o1) (p x) = 0) (hz : 0 < Ar s (p o0) (p o1) (p z)) : Chain s p (fun x => x ∈ o0 :: o1 :: R ++ [z]) (o0 :: o1 :: R ++ [z]) := by
  have hp := List.pairwise_append.mp up
  have rowflat : ∀ a ∈ o0 :: o1 :: R, ∀ b ∈ o0 :: o1 :: R, ∀ x ∈ o0 :: o1 :: R, area (p a) (p b) (p x) = 0 := fun a ha b hb x hx => by
    have d01 : lx (p o0) (p o1) := (List.pairwise_cons.mp hp.1).1 o1 (List.mem_cons_self ..)
    have f : ∀ x ∈ o0 :: o1 :: R, crs (vec (p o0) (p o1)) (vec (p o0) (p x)) = 0 := fun x hx => by
      rcases List.mem_cons.mp hx with rfl | hx
      · unfold crs vec; grind
      · rcases List.mem_cons.mp hx with rfl | hx
        · unfold crs; grind
        · have := flat x hx
          rwa [area_crs] at this
    have fa := f a ha
    have fb := f b hb
    have fx := f x hx
    have e : ∀ k : Int, (vec (p o0) (p o1)).1 * crs (vec (p a) (p b)) (vec (p a) (p x)) = 0 ∧ (vec (p o0) (p o1)).2 * crs (vec (p a) (p b)) (vec (p a) (p x)) = 0 := fun _ => by
      revert fa fb fx
      unfold crs vec
      dsimp
      intro fa fb fx
      constructor <;> grind
    obtain ⟨e1, e2⟩ := e 0
    rw [area_crs]
    rcases lp_vec.mpr d01 with h | ⟨_, h⟩
    · rcases Int.mul_eq_zero.mp e1 with k | k
      · omega
      · exact k
    · rcases Int.mul_eq_zero.mp e2 with k | k
      · omega
      · exact k
  have edge : ∀ e ∈ prs (o0 :: o1 :: R ++ [z]), (e.1 ∈ o0 :: o1 :: R ∧ e.2 ∈ o0 :: o1 :: R) ∨ (e.2 = z ∧ e.1 ∈ o0 :: o1 :: R ∧ ∀ x ∈ o0 :: o1 :: R, x = e.1 ∨ lx (p x) (p e.1)) := fun e he => by
    obtain ⟨M, y, hM⟩ : ∃ M y, o0 :: o1 :: R = M ++ [y] := by
      rcases List.eq_nil_or_concat (o0 :: o1 :: R) with h | ⟨M, y, h⟩
      · cases h
      · exact ⟨M, y, by rw [h, List.concat_eq_append]⟩
    rw [hM, List.append_assoc, List.singleton_append, prs_app] at he
    rcases List.mem_append.mp he with he | he
    · rw [← hM] at he
      exact .inl (prs_in he)
    · rcases List.mem_cons.mp (show e ∈ [(y, z)] from he) with rfl | he
      · refine .inr ⟨rfl, by rw [hM]; simp, fun x hx => ?_⟩
        rw [hM] at hx
        rcases List.mem_append.mp hx with hx | hx
        · have := hp.1
          rw [hM] at this
          exact .inr ((List.pairwise_append.mp this).2.2 x hx y (by simp))
        · exact .inl (List.mem_singleton.mp hx)
      · cases he
  have val : ∀ e ∈ prs (o0 :: o1 :: R ++ [z]), ∀ x ∈ o0 :: o1 :: R ++ [z], 0 ≤ Ar s (p e.1) (p e.2) (p x) := fun e he x hx => by
    have l12 := prs_lx up he
    rcases edge e he with ⟨m1, m2⟩ | ⟨rfl, m1, m3⟩
    · rcases List.mem_append.mp hx with hx | hx
      · unfold Ar
        rw [rowflat _ m1 _ m2 _ hx]
        omega
      · rw [List.mem_singleton.mp hx]
        exact Int.le_of_lt (row_pos hs up flat hz m1 m2 l12)
    · rcases List.mem_append.mp hx with hx | hx
      · rcases m3 x hx with rfl | h
        · unfold Ar; rw [area_aba]; omega
        · have := row_pos hs up flat hz hx m1 h
          have e1 : Ar s (p e.1) (p e.2) (p x) = Ar s (p x) (p e.1) (p e.2) := by unfold Ar; rw [area_rot]
          omega
      · rw [List.mem_singleton.mp hx]
        unfold Ar; rw [area_abb]; omega
  refine ⟨up, fun x hx => hx, val, fun e he x hx _ => ⟨hx, prs_between up he hx⟩, fun x hx c P e h => ?_, fun x hx c P e h => ?_⟩
  · cases e
    rcases List.mem_cons.mp (show x ∈ o0 :: (o1 :: R ++ [z]) from hx) with rfl | hx
    · exact lx_irrefl _ h
    · exact lx_asymm h ((List.pairwise_cons.mp (show (o0 :: (o1 :: R ++ [z])).Pairwise _ from up)).1 x hx)
  · have e2 := (List.append_inj' (show (o0 :: o1 :: R) ++ [z] = P ++ [c] from e) rfl).2
    cases e2
    rcases List.mem_append.mp hx with hx | hx
    · exact lx_asymm h (hp.2.2 x hx _ (by simp))
    · rw [List.mem_singleton.mp hx] at h
      exact lx_irrefl _ h
theorem chain_two (hs : sgnd s) (up : (o0 :: o1 :: R ++ [z]).Pairwise fun a b => lx (p a) (p b)) (flat : ∀ x ∈ R, area (p o0) (p o1) (p x) = 0) (hz : 0 < Ar s (p o0) (p o1) (p z)) : Chain (-s) p (fun x => x ∈ o0 :: o1 :: R ++ [z]) [o0, z] := by
  have hp := List.pairwise_append.mp up
  have z0 : lx (p o0) (p z) := hp.2.2 o0 (by simp) z (by simp)
  have pos : ∀ x ∈ o1 :: R, 0 < Ar (-s) (p o0) (p z) (p x) := fun x hx => by
    have := row_pos hs up flat hz (a := o0) (b := x) (by simp) (List.mem_cons_of_mem _ hx) ((List.pairwise_cons.mp hp.1).1 x hx)
    unfold Ar at *
    rw [area_sw, Int.neg_mul_neg]
    exact this
  have cases3 : ∀ x ∈ o0 :: o1 :: R ++ [z], x = o0 ∨ x = z ∨ x ∈ o1 :: R := fun x hx => by
    rcases List.mem_append.mp hx with hx | hx
    · rcases List.mem_cons.mp hx with rfl | hx
      · exact .inl rfl
      · exact .inr (.inr hx)
    · exact .inr (.inl (List.mem_singleton.mp hx))
  have one : ∀ e ∈ prs [o0, z], e = (o0, z) := fun e he => by
    rcases List.mem_cons.mp (show e ∈ [(o0, z)] from he) with rfl | he
    · rfl
    · cases he
  refine ⟨by simpa using z0, fun x hx => ?_, fun e he x hx => ?_, fun e he x hx h0 => ?_, fun x hx c P e h => ?_, fun x hx c P e h => ?_⟩
  · rcases List.mem_cons.mp hx with rfl | hx
    · simp
    · rw [List.mem_singleton.mp hx]; simp
  · rw [one e he]
    rcases cases3 x hx with rfl | rfl | hx
    · unfold Ar; rw [area_aba]; omega
    · unfold Ar; rw [area_abb]; omega
    · exact Int.le_of_lt (pos x hx)
  · rw [one e he] at h0 ⊢
    rcases cases3 x hx with rfl | rfl | hx
    · exact ⟨by simp, fun h => lx_irrefl _ h.1⟩
    · exact ⟨by simp, fun h => lx_irrefl _ h.2⟩
    · have := pos x hx
      dsimp at h0
      omega
  · cases e
    rcases cases3 x hx with rfl | rfl | hx
    · exact lx_irrefl _ h
    · exact lx_asymm h z0
    · exact lx_asymm h ((List.pairwise_cons.mp hp.1).1 x hx)
  · have e2 := (List.append_inj' (show [o0] ++ [z] = P ++ [c] from e) rfl).2
    cases e2
    rcases cases3 x hx with rfl | rfl | hx
    · exact lx_asymm h z0
    · exact lx_irrefl _ h
    · exact lx_asymm h (hp.2.2 x (List.mem_cons_of_mem _ hx) _ (by simp))
theorem nodup_up {C : List Int} (h : C.Pairwise fun a b => lx (p a) (p b)) : C.Nodup := h.imp fun {a b} hab e => by rw [e] at hab; exact lx_irrefl _ hab
theorem hull_left (up : (o0 :: o1 :: R ++ [z]).Pairwise fun a b => lx (p a) (p b)) (flat : ∀ x ∈ R, area (p o0) (p o1) (p x) = 0) (hz : 0 < area (p o0) (p o1) (p z)) : Hull p (fun x => x ∈ o0 :: o1 :: R ++ [z]) [] (o1 :: R) o0 z :=
  ⟨chain_row (.inl rfl) up flat (by unfold Ar; omega), chain_two (.inl rfl) up flat (by unfold Ar; omega), by simpa using nodup_up up, .inr (by simp)⟩
theorem hull_right (up : (o0 :: o1 :: R ++ [z]).Pairwise fun a b => lx (p a) (p b)) (flat : ∀ x ∈ R, area (p o0) (p o1) (p x) = 0) (hz : area (p o0) (p o1) (p z) < 0) : Hull p (fun x => x ∈ o0 :: o1 :: R ++ [z]) (o1 :: R).reverse [] o0 z := by
  refine ⟨chain_two (s := -1) (.inr rfl) up flat (by unfold Ar; omega), ?_, ?_, .inl (by simp)⟩
  · rw [List.reverse_reverse]
    exact chain_row (.inr rfl) up flat (by unfold Ar; omega)
  · have h := nodup_up up
    have hp := (List.nodup_append.mp h)
    rw [show (o1 :: R).reverse ++ [o0] ++ [z] = (o0 :: o1 :: R).reverse ++ [z] by simp]
    refine List.nodup_append.mpr ⟨(List.reverse_perm _).nodup_iff.mpr hp.1, hp.2.1, fun a ha b hb => hp.2.2 a (List.mem_reverse.mp ha) b hb⟩
end
/-! ### the pairs of a list, by place -/
theorem prs_len : ∀ G : List Int, (prs G).length = G.length - 1
  | [] => rfl
  | [_] => rfl
  | a :: b :: t => by
    rw [prs_cons, List.length_cons, prs_len (b :: t)]
    simp
theorem prs_get : ∀ (G : List Int) (i : Nat) {a b : Int}, (prs G)[i]? = some (a, b) ↔ G[i]? = some a ∧ G[i + 1]? = some b
  | [], i, a, b => by simp [prs]
  | [x], i, a, b => by
    simp only [prs]
    constructor
    · intro h; simp at h
    · rintro ⟨_, h⟩; simp at h
  | x :: y :: t, 0, a, b => by
    rw [prs_cons]
    simp
  | x :: y :: t, i + 1, a, b => by
    rw [prs_cons, List.getElem?_cons_succ, prs_get (y :: t) i]
    simp only [List.getElem?_cons_succ]
theorem prs_next (G : List Int) {i : Nat} (h : i + 1 < (prs G).length) : ∃ a b c, (prs G)[i]? = some (a, b) ∧ (prs G)[i + 1]? = some (b, c) := by
  rw [prs_len] at h
  refine ⟨G[i], G[i + 1], G[i + 2], (prs_get G i).mpr ⟨List.getElem?_eq_getElem _, List.getElem?_eq_getElem _⟩, (prs_get G (i + 1)).mpr ⟨List.getElem?_eq_getElem _, List.getElem?_eq_getElem _⟩⟩
theorem prs_ends {G : List Int} (h : 2 ≤ G.length) (nd : G.Nodup) : ∃ g0 g1, (∃ b, (prs G)[0]? = some (g0, b)) ∧ (∃ a, (prs G).getLast? = some (a, g1)) ∧ g0 ≠ g1 := by
  refine ⟨G[0], G[G.length - 1], ⟨G[1], (prs_get G 0).mpr ⟨List.getElem?_eq_getElem _, List.getElem?_eq_getElem _⟩⟩, ⟨G[G.length - 2], ?_⟩, fun e => ?_⟩
  · rw [List.getLast?_eq_getElem?, prs_len, show G.length - 1 - 1 = G.length - 2 by omega]
    refine (prs_get G _).mpr ⟨List.getElem?_eq_getElem _, ?_⟩
    rw [show G.length - 2 + 1 = G.length - 1 by omega]
    exact List.getElem?_eq_getElem _
  · have := (List.getElem_inj nd).mp e
    omega
theorem prs_fst : ∀ (G : List Int) {a b : Int}, (prs G).getLast? = some (a, b) → (prs G).map (fun x => x.1) ++ [b] = G
  | [], a, b, h => by simp [prs] at h
  | [_], a, b, h => by simp [prs] at h
  | [x, y], a, b, h => by
    simp [prs] at h
    obtain ⟨rfl, rfl⟩ := h
    rfl
  | x :: y :: z :: t, a, b, h => by
    have h2 : (prs (y :: z :: t)).getLast? = some (a, b) := by
      rw [prs_cons, prs_cons, List.getLast?_cons_cons] at h
      rw [prs_cons]
      exact h
    have := prs_fst (y :: z :: t) h2
    rw [prs_cons, List.map_cons, List.cons_append, this]
end T
/-! plain sums over the mirrors' operations, second part: cuts, places, loops -/
namespace T
local instance tb2 : Tb := ⟨[]⟩
theorem cut_from {α : Type} (l : List α) (k : Nat) : ocut (some l) (osome (some (k : Int))) (some none) = some (l.drop k) := by
  show some (cutL l (some (k : Int)) none) = _
  unfold cutL
  rw [HT.sIx_nat, HT.sIx_none]
  congr 1
  by_cases h : k ≤ l.length
  · rw [Nat.min_eq_left h, List.take_of_length_le (by rw [List.length_drop]; omega)]
  · rw [Nat.min_eq_right (by omega), List.drop_of_length_le (by omega : l.length ≤ k), List.drop_length]
    simp
theorem cut_to {α : Type} (l : List α) (k : Nat) : ocut (some l) (some none) (osome (some (k : Int))) = some (l.take k) := by
  show some (cutL l none (some (k : Int))) = _
  unfold cutL
  rw [HT.sIx_nat, HT.sIx_none, List.drop_zero, Nat.sub_zero]
  congr 1
  by_cases h : k ≤ l.length
  · rw [Nat.min_eq_left h]
  · rw [Nat.min_eq_right (by omega), List.take_of_length_le (by omega : l.length ≤ l.length), List.take_of_length_le (by omega)]
theorem idx_nat {α : Type} (l : List α) (k : Nat) : oidx (some l) (some (k : Int)) = l[k]? := by
  show L2.atI l (k : Int) = _
  rw [atI_pos (by omega), Int.toNat_natCast]
theorem idx_0 {α : Type} (a : α) (l : List α) : oidx (some (a :: l)) (some (0 : Int)) = some a := idx_nat (a :: l) 0
theorem idx_1 {α : Type} (a b : α) (l : List α) : oidx (some (a :: b :: l)) (some (1 : Int)) = some b := idx_nat (a :: b :: l) 1
theorem idx_i {α : Type} {l : List α} {k : Int} (h0 : 0 ≤ k) : oidx (some l) (some k) = l[k.toNat]? := atI_pos h0
theorem idx_last {α : Type} {l : List α} (h : l ≠ []) : oidx (some l) (some (-1 : Int)) = l.getLast? := by
  have : 0 < l.length := List.length_pos_iff.mpr h
  show L2.atI l (-1) = _
  rw [atI_neg (by decide) (by omega), List.getLast?_eq_getElem?]
  congr 1
  omega
theorem rngL_lenN (n : Nat) : (rngL (n : Int)).length = n := by unfold rngL; simp
theorem rngL_at (n i : Nat) (h : i < n) : (rngL (n : Int))[i]? = some (i : Int) := rngL_get (by omega)
theorem mem_rngL {n x : Int} : x ∈ rngL n ↔ 0 ≤ x ∧ x < n := by
  unfold rngL
  rw [List.mem_map]
  constructor
  · rintro ⟨i, h, rfl⟩
    have := List.mem_range.mp h
    omega
  · intro ⟨h1, h2⟩
    exact ⟨x.toNat, List.mem_range.mpr (by omega), by omega⟩
theorem rngL_nodup (n : Int) : (rngL n).Nodup := by
  unfold rngL
  refine List.Pairwise.map _ (fun a b h e => h (by omega)) List.nodup_range
/-- a walk with an invariant -/
theorem loop_inv {α β γ : Type} {f : α → γ → Option (Out β γ)} {Inv : Nat → γ → Prop} : ∀ (xs : List α) (i : Nat) (g : γ), (∀ j x g, xs[j]? = some x → Inv (i + j) g → ∃ g', (f x g = some (.go g') ∨ f x g = some (.cnt g')) ∧ Inv (i + j + 1) g') → Inv i g → ∃ g', loopL f xs g = some (.go g') ∧ Inv (i + xs.length) g'
  | [], i, g, _, h => ⟨g, rfl, h⟩
  | x :: xs, i, g, hs, h => by
    obtain ⟨g1, e1, h1⟩ := hs 0 x g rfl h
    obtain ⟨g2, e2, h2⟩ := loop_inv xs (i + 1) g1 (fun j y g hy hI => by
      have := hs (j + 1) y g hy (by rw [show i + (j + 1) = i + 1 + j by omega]; exact hI)
      rw [show i + (j + 1) + 1 = i + 1 + j + 1 by omega] at this
      exact this) h1
    refine ⟨g2, ?_, by rw [List.length_cons, show i + (xs.length + 1) = i + 1 + xs.length by omega]; exact h2⟩
    rcases e1 with e1 | e1
    · rw [loopL_go e1, e2]
    · rw [loopL_cnt e1, e2]
theorem loopW_t {β γ : Type} {c : γ → Option Bool} {f : γ → Option (Out β γ)} {g g' : γ} (h1 : c g = some true) (h2 : f g = some (.go g')) : loopW c f g = loopW c f g' := by
  rw [loopW_eq, h1, bind_s, if_pos rfl, h2]
  rfl
theorem loopW_f {β γ : Type} {c : γ → Option Bool} {f : γ → Option (Out β γ)} {g : γ} (h1 : c g = some false) : loopW c f g = some (.go g) := by
  rw [loopW_eq, h1]
  rfl
theorem loop_invE {α β γ γ' : Type} {f : α → γ → Option (Out β γ)} {K : γ → Option (Out β γ')} {xs : List α} {g : γ} {Inv : Nat → γ → Prop} {Post : Option (Out β γ') → Prop} (h0 : Inv 0 g)
    (hs : ∀ j x g, xs[j]? = some x → Inv j g → ∃ g', (f x g = some (.go g') ∨ f x g = some (.cnt g')) ∧ Inv (j + 1) g') (k : ∀ g', Inv xs.length g' → Post (K g')) : Post (thenO (loopL f xs g) K) := by
  obtain ⟨g', e, hI⟩ := loop_inv xs 0 g (fun j x g hx hI => by
    rw [Nat.zero_add] at *
    exact hs j x g hx hI) h0
  rw [e, thenO_go]
  exact k g' (by rw [Nat.zero_add] at hI; exact hI)
theorem loop_res {α β γ : Type} {f : α → γ → Option (Out β γ)} {xs : List α} {g r : γ} {Inv : Nat → γ → Prop} (h0 : Inv 0 g)
    (hs : ∀ j x g, xs[j]? = some x → Inv j g → ∃ g', (f x g = some (.go g') ∨ f x g = some (.cnt g')) ∧ Inv (j + 1) g') (k : ∀ g', Inv xs.length g' → g' = r) : loopL f xs g = some (.go r) := by
  obtain ⟨g', e, hI⟩ := loop_inv xs 0 g (fun j x g hx hI => by
    rw [Nat.zero_add] at *
    exact hs j x g hx hI) h0
  rw [e, k g' (by rw [Nat.zero_add] at hI; exact hI)]
theorem loop_all2 {α β γ' : Type} {f : α → Unit → Option (Out β Unit)} {K : Unit → Option (Out β γ')} {xs : List α} {r : Option β} (h : ∀ x ∈ xs, f x () = some (.go ()) ∨ f x () = some (.cnt ())) (k : retv (K ()) = r) : retv (thenO (loopL f xs ()) K) = r := by
  obtain ⟨g', e, _⟩ := loop_inv (Inv := fun _ _ => True) xs 0 () (fun j x g hx _ => ⟨(), h x (List.mem_of_getElem? hx), trivial⟩) trivial
  rw [e, thenO_go]
  exact k
theorem loop_all2O {α β γ' : Type} {f : α → Unit → Option (Out β Unit)} {K : Unit → Option (Out β γ')} {xs : List α} {r : Option (Out β γ')} (h : ∀ x ∈ xs, f x () = some (.go ()) ∨ f x () = some (.cnt ())) (k : K () = r) : thenO (loopL f xs ()) K = r := by
  obtain ⟨g', e, _⟩ := loop_inv (Inv := fun _ _ => True) xs 0 () (fun j x g hx _ => ⟨(), h x (List.mem_of_getElem? hx), trivial⟩) trivial
  rw [e, thenO_go]
  exact k
/-- the points' places -/
def ptAt (pts : List Pt) (i : Int) : Pt := pts.getD i.toNat (0, 0)
theorem ptAt_idx {pts : List Pt} {i : Int} (h0 : 0 ≤ i) (h1 : i < pts.length) : oidx (some pts) (some i) = some (ptAt pts i) := by
  rw [idx_i h0, List.getElem?_eq_getElem (by omega)]
  unfold ptAt
  rw [List.getD_eq_getElem?_getD, List.getElem?_eq_getElem (by omega)]
  rfl
theorem ptAt_mem {pts : List Pt} {i : Int} (h0 : 0 ≤ i) (h1 : i < pts.length) : ptAt pts i ∈ pts := by
  unfold ptAt
  rw [List.getD_eq_getElem?_getD, List.getElem?_eq_getElem (by omega)]
  exact List.getElem_mem _
theorem ptAt_inj {pts : List Pt} (nd : pts.Nodup) {i j : Int} (h0 : 0 ≤ i) (h1 : i < pts.length) (k0 : 0 ≤ j) (k1 : j < pts.length) (e : ptAt pts i = ptAt pts j) : i = j := by
  unfold ptAt at e
  rw [List.getD_eq_getElem?_getD, List.getD_eq_getElem?_getD, List.getElem?_eq_getElem (by omega), List.getElem?_eq_getElem (by omega)] at e
  have := (List.getElem_inj nd).mp (show pts[i.toNat] = pts[j.toNat] from e)
  omega
theorem ptAt_of {pts : List Pt} {x : Pt} (h : x ∈ pts) : ∃ i : Int, 0 ≤ i ∧ i < pts.length ∧ ptAt pts i = x := by
  obtain ⟨n, hn, e⟩ := List.mem_iff_getElem.mp h
  refine ⟨n, by omega, by omega, ?_⟩
  unfold ptAt
  rw [List.getD_eq_getElem?_getD, Int.toNat_natCast, List.getElem?_eq_getElem hn]
  exact e
/-- the numbers by their points -/
def ordr (pts : List Pt) : List Int := (rngL (pts.length : Int)).mergeSort (ptLe fun i => pts.getD i.toNat (0, 0))
theorem ordr_mem {pts : List Pt} {x : Int} : x ∈ ordr pts ↔ 0 ≤ x ∧ x < pts.length := by
  unfold ordr
  rw [(List.mergeSort_perm _ _).mem_iff, mem_rngL]
theorem ordr_len (pts : List Pt) : (ordr pts).length = pts.length := by unfold ordr; rw [List.length_mergeSort, rngL_lenN]
theorem ordr_nodup (pts : List Pt) : (ordr pts).Nodup := (List.mergeSort_perm _ _).nodup_iff.mpr (rngL_nodup _)
theorem ptLe_iff {k : Int → Pt} {a b : Int} : ptLe k a b = true ↔ ¬ lx (k b) (k a) := by
  unfold ptLe lx
  rw [decide_eq_true_eq]
  omega
theorem ordr_up {pts : List Pt} (nd : pts.Nodup) : (ordr pts).Pairwise fun a b => lx (ptAt pts a) (ptAt pts b) := by
  have h : (ordr pts).Pairwise fun a b => ptLe (fun i => pts.getD i.toNat (0, 0)) a b = true := List.pairwise_mergeSort (fun a b c h1 h2 => by
    rw [ptLe_iff] at *
    intro h
    by_cases hab : lx (pts.getD b.toNat (0, 0)) (pts.getD c.toNat (0, 0))
    · exact h1 (lx_trans hab h)
    · rw [lx_total hab h2] at h1
      exact h1 h) (fun a b => by
    by_cases h : ptLe (fun i => pts.getD i.toNat (0, 0)) a b = true
    · rw [h]; rfl
    · have h2 : ¬¬ lx (pts.getD b.toNat (0, 0)) (pts.getD a.toNat (0, 0)) := fun z => h (ptLe_iff.mpr z)
      have h3 := Decidable.of_not_not h2
      rw [show ptLe (fun i => pts.getD i.toNat (0, 0)) b a = true from ptLe_iff.mpr fun z => lx_asymm h3 z, Bool.or_true]) _
  have h2 := (h.and (ordr_nodup pts))
  refine List.Pairwise.imp_of_mem (fun {a b} ha hb ⟨k1, k2⟩ => ?_) h2
  have a1 := ordr_mem.mp ha
  have b1 := ordr_mem.mp hb
  have k1 : ¬ lx (ptAt pts b) (ptAt pts a) := ptLe_iff.mp k1
  by_cases z : lx (ptAt pts a) (ptAt pts b)
  · exact z
  · exact absurd (ptAt_inj nd a1.1 a1.2 b1.1 b1.2 (lx_total z k1)) k2
theorem ord_all {pts : List Pt} (h : pts.length ≤ 1000000) : osortL pts (orng (olen (some pts))) = some (ordr pts) := by
  rw [olen_s, orng_s (by omega) (by omega)]
  show (if (rngL (pts.length : Int)).all _ = true then _ else _) = _
  rw [if_pos]
  · rfl
  · refine List.all_eq_true.mpr fun x hx => ?_
    have := mem_rngL.mp hx
    rw [decide_eq_true this.1, decide_eq_true (by omega : x.toNat < pts.length)]
    rfl
def triOf (q : Int) (e : Int × Int) : Tri := ⟨e.2, e.1, q⟩
theorem sgn_lt0 {x : Int} : sgn x < 0 ↔ x < 0 := by
  rw [sgn_eq]
  exact Int.sign_neg_iff
theorem cyc_len (A : List Int) : (cyc A).length = A.length := by
  unfold cyc
  rw [prs_len, List.length_append]
  simp
theorem cyc_get (A : List Int) {j : Nat} (h : j < A.length) : ∃ a b, A[j]? = some a ∧ A[(j + 1) % A.length]? = some b ∧ (cyc A)[j]? = some (a, b) := by
  have hm : (j + 1) % A.length < A.length := Nat.mod_lt _ (by omega)
  refine ⟨A[j], A[(j + 1) % A.length], List.getElem?_eq_getElem _, List.getElem?_eq_getElem _, ?_⟩
  unfold cyc
  refine (prs_get _ _).mpr ⟨by rw [List.getElem?_append_left h, List.getElem?_eq_getElem h], ?_⟩
  by_cases k : j + 1 < A.length
  · rw [List.getElem?_append_left k, List.getElem?_eq_getElem k]
    congr 1
    congr 1
    exact (Nat.mod_eq_of_lt k).symm
  · have e : j + 1 = A.length := by omega
    have z : (j + 1) % A.length = 0 := by rw [e, Nat.mod_self]
    rw [← List.getElem?_eq_getElem hm, List.getElem?_append_right (by omega), z, e, Nat.sub_self]
    cases A with
    | nil => exact absurd h (Nat.not_lt_zero _)
    | cons x t => rfl
theorem loop_split {α β γ : Type} {f : α → γ → Option (Out β γ)} {Inv : List α → γ → Prop} (all : List α) (step : ∀ D q R g, all = D ++ q :: R → Inv D g → ∃ g', f q g = some (.go g') ∧ Inv (D ++ [q]) g') : ∀ (R D : List α) (g : γ), all = D ++ R → Inv D g → ∃ g', loopL f R g = some (.go g') ∧ Inv all g'
  | [], D, g, e, h => ⟨g, rfl, by rw [e, List.append_nil]; exact h⟩
  | q :: R, D, g, e, h => by
    obtain ⟨g1, e1, h1⟩ := step D q R g e h
    obtain ⟨g2, e2, h2⟩ := loop_split all step R (D ++ [q]) g1 (by rw [e]; simp) h1
    exact ⟨g2, by rw [loopL_go e1, e2], h2⟩
theorem loop_splitE {α β γ γ' : Type} {f : α → γ → Option (Out β γ)} {K : γ → Option (Out β γ')} {Inv : List α → γ → Prop} {Post : Option (Out β γ') → Prop} (all R D : List α) (g : γ) (e : all = D ++ R) (h0 : Inv D g)
    (step : ∀ D q R g, all = D ++ q :: R → Inv D g → ∃ g', f q g = some (.go g') ∧ Inv (D ++ [q]) g') (k : ∀ g', Inv all g' → Post (K g')) : Post (thenO (loopL f R g) K) := by
  obtain ⟨g', eg, hI⟩ := loop_split all step R D g e h0
  rw [eg, thenO_go]
  exact k g' hI
theorem lcM_rng {β : Type} (E : List β) (g : Int → Option β) (h : ∀ i : Nat, i < E.length → g (i : Int) = E[i]?) : lcM oYes g (rngL (E.length : Int)) = some E := by
  have key : ∀ (R D : List Int), rngL (E.length : Int) = D ++ R → lcM oYes g R = some (E.drop D.length) := by
    intro R
    induction R with
    | nil =>
      intro D e
      have : D.length = E.length := by have := congrArg List.length e; rw [rngL_lenN, List.append_nil] at this; omega
      rw [this, List.drop_length]
      rfl
    | cons x R ih =>
      intro D e
      have hl := congrArg List.length e
      rw [rngL_lenN, List.length_append, List.length_cons] at hl
      have hD : D.length < E.length := by omega
      have hx : x = (D.length : Int) := by
        have := rngL_at E.length D.length hD
        rw [e, List.getElem?_append_right (Nat.le_refl _), Nat.sub_self] at this
        simpa using this
      have := ih (D ++ [x]) (by rw [e]; simp)
      show (Option.bind (some true) fun b => if b then (g x).bind fun y => (lcM oYes g R).bind fun ys => some (y :: ys) else lcM oYes g R) = _
      rw [bind_s, if_pos rfl, hx, h _ hD, List.getElem?_eq_getElem hD, bind_s, this, bind_s, List.length_append, List.length_singleton, ← List.getElem_cons_drop hD]
  have := key (rngL (E.length : Int)) [] rfl
  rw [this]
  rfl
/-- around A stand the points D -/
def HullAt (p : Int → Pt) (D A : List Int) : Prop := ∃ U Lo l r, A = U ++ l :: Lo ++ [r] ∧ Hull p (fun x => x ∈ D) U Lo l r ∧ D.getLast? = some r
/-- A' comes of A by q -/
def Grown (p : Int → Pt) (q : Int) (A A' : List Int) : Prop := ∃ X Y G, (cyc A).filter (keep p q) = X ++ Y ∧ Y ++ X = prs G ∧ Y ≠ [] ∧ G.Nodup ∧ A' = G ++ [q]
theorem grow {p : Int → Pt} {D A R : List Int} {q : Int} (up : (D ++ q :: R).Pairwise fun a b => lx (p a) (p b)) (inj : ∀ x y, x ∈ D → y ∈ D → p x = p y → x = y) (H : HullAt p D A) : ∃ A', Grown p q A A' ∧ HullAt p (D ++ [q]) A' := by
  obtain ⟨U, Lo, l, r, rfl, H, hr⟩ := H
  have hq : ∀ x, x ∈ D → lx (p x) (p q) := fun x hx => (List.pairwise_append.mp up).2.2 x hx q (List.mem_cons_self ..)
  obtain ⟨U', Lo', X, Y, H', e1, e2, e3⟩ := H.step inj hq
  refine ⟨U' ++ l :: Lo' ++ [q], ⟨X, Y, U' ++ l :: Lo', e1, e2, e3, (List.nodup_append.mp H'.nd).1, rfl⟩, U', Lo', l, q, rfl, ?_, by simp⟩
  have : (fun x => x ∈ D ∨ x = q) = fun x => x ∈ D ++ [q] := by
    funext x
    simp
  rw [← this]
  exact H'
end T
/-! plain sums, third part: least, sorted, distinct; what a hull says -/
namespace T
local instance tb3 : Tb := ⟨[]⟩
theorem loop_dec {α β : Type} {f : α → Unit → Option (Out β Unit)} {P : α → Bool} {b : β} : ∀ (xs : List α), (∀ x ∈ xs, f x () = if P x then some (.ret b) else some (.go ())) → loopL f xs () = if xs.any P then some (.ret b) else some (.go ())
  | [], _ => rfl
  | x :: xs, h => by
    have hx := h x (List.mem_cons_self ..)
    rw [List.any_cons]
    cases hP : P x with
    | true =>
      rw [hP, if_pos rfl] at hx
      rw [loopL_ret hx, Bool.true_or, if_pos rfl]
    | false =>
      rw [hP, if_neg Bool.false_ne_true] at hx
      rw [loopL_go hx, loop_dec xs fun y hy => h y (List.mem_cons_of_mem _ hy), Bool.false_or]
/-- three on a line through two -/
theorem col3 {a b x y z : Pt} (ab : a ≠ b) (hx : area a b x = 0) (hy : area a b y = 0) (hz : area a b z = 0) : area x y z = 0 := by
  have e1 : (b.1 - a.1) * area x y z = 0 := by
    revert hx hy hz
    unfold area
    intro hx hy hz
    grind
  have e2 : (b.2 - a.2) * area x y z = 0 := by
    revert hx hy hz
    unfold area
    intro hx hy hz
    grind
  rcases Int.mul_eq_zero.mp e1 with k | k
  · rcases Int.mul_eq_zero.mp e2 with k2 | k2
    · exact absurd (Prod.ext (by omega) (by omega)) ab
    · exact k2
  · exact k
theorem perm_lx : ∀ {l m : List Pt}, l.Perm m → l.Pairwise lx → m.Pairwise lx → l = m
  | [], m, h, _, _ => (List.nil_perm.mp h).symm
  | a :: l, [], h, _, _ => absurd h.length_eq (by simp)
  | a :: l, b :: m, h, h1, h2 => by
    have ea : a = b := by
      have m1 : a ∈ b :: m := h.mem_iff.mp (List.mem_cons_self ..)
      have m2 : b ∈ a :: l := h.mem_iff.mpr (List.mem_cons_self ..)
      rcases List.mem_cons.mp m1 with e | m1
      · exact e
      · rcases List.mem_cons.mp m2 with e | m2
        · exact e.symm
        · exact (lx_asymm ((List.pairwise_cons.mp h1).1 b m2) ((List.pairwise_cons.mp h2).1 a m1)).elim
    subst ea
    rw [perm_lx ((List.perm_cons a).mp h) (List.pairwise_cons.mp h1).2 (List.pairwise_cons.mp h2).2]
theorem ordr_map (pts : List Pt) : ((ordr pts).map (ptAt pts)).Perm pts := by
  have h1 : ((ordr pts).map (ptAt pts)).Perm ((rngL (pts.length : Int)).map (ptAt pts)) := (List.mergeSort_perm _ _).map _
  have h2 : (rngL (pts.length : Int)).map (ptAt pts) = pts := by
    refine List.ext_getElem (by rw [List.length_map, rngL_lenN]) fun i h1 h2 => ?_
    rw [List.getElem_map]
    have := rngL_at pts.length i h2
    rw [List.getElem?_eq_getElem (by rw [rngL_lenN]; exact h2)] at this
    rw [Option.some.inj this]
    unfold ptAt
    rw [List.getD_eq_getElem?_getD, Int.toNat_natCast, List.getElem?_eq_getElem h2]
    rfl
  rwa [h2] at h1
theorem lt_lx (a b : Pt) : Ordd.lt a b = decide (lx a b) := rfl
theorem osort_pts {pts : List Pt} (nd : pts.Nodup) : osort (some pts) = some ((ordr pts).map (ptAt pts)) := by
  show some _ = _
  congr 1
  refine perm_lx ((List.mergeSort_perm _ _).trans (ordr_map pts).symm) ?_ ?_
  · have h : (pts.mergeSort fun x y => !Ordd.lt y x).Pairwise fun x y => (!Ordd.lt y x) = true := List.pairwise_mergeSort (fun a b c h1 h2 => by
      simp only [lt_lx, Bool.not_eq_true', decide_eq_false_iff_not] at *
      intro h
      by_cases hab : lx b c
      · exact h1 (lx_trans hab h)
      · rw [lx_total hab h2] at h1
        exact h1 h) (fun a b => by
      simp only [lt_lx]
      by_cases h : lx b a
      · rw [show decide (lx a b) = false from decide_eq_false fun z => lx_asymm z h, Bool.not_false, Bool.or_true]
      · rw [decide_eq_false h]
        rfl) _
    have nd2 : (pts.mergeSort fun x y => !Ordd.lt y x).Nodup := (List.mergeSort_perm _ _).nodup_iff.mpr nd
    refine (h.and nd2).imp fun {a b} ⟨k1, k2⟩ => ?_
    simp only [lt_lx, Bool.not_eq_true', decide_eq_false_iff_not] at k1
    by_cases z : lx a b
    · exact z
    · exact absurd (lx_total z k1) k2
  · exact List.pairwise_map.mpr (ordr_up nd)
theorem oindx_at {α : Type} [DecidableEq α] {l : List α} (nd : l.Nodup) {j : Nat} {x : α} (h : l[j]? = some x) : oindx (some l) (some x) = some (j : Int) := by
  obtain ⟨hj, e⟩ := List.getElem?_eq_some_iff.mp h
  have hm : x ∈ l := by rw [← e]; exact List.getElem_mem _
  unfold oindx
  rw [bind2_s, if_pos hm]
  have hl := List.idxOf_lt_length_iff.mpr hm
  have e2 : l[l.idxOf x] = l[j] := by rw [List.getElem_idxOf hl, e]
  rw [(List.getElem_inj nd).mp e2]
theorem oindx_pt {pts : List Pt} (nd : pts.Nodup) {i : Int} (h0 : 0 ≤ i) (h1 : i < pts.length) : oindx (some pts) (some (ptAt pts i)) = some i := by
  have := oindx_at (j := i.toNat) (x := ptAt pts i) nd (by
    unfold ptAt
    rw [List.getD_eq_getElem?_getD, List.getElem?_eq_getElem (by omega)]
    rfl)
  rw [this, Int.toNat_of_nonneg h0]
theorem lcM_back {pts : List Pt} (nd : pts.Nodup) (f : Pt → Option Int) (hf : ∀ x, f x = oindx (some pts) (some x)) : ∀ (l : List Int), (∀ x ∈ l, 0 ≤ x ∧ x < pts.length) → lcM oYes f (l.map (ptAt pts)) = some l
  | [], _ => rfl
  | i :: l, h => by
    have hi := h i (by simp)
    show (Option.bind (some true) fun b => if b then (f (ptAt pts i)).bind fun y => (lcM oYes f (l.map (ptAt pts))).bind fun ys => some (y :: ys) else lcM oYes f (l.map (ptAt pts))) = _
    rw [bind_s, if_pos rfl, hf, oindx_pt nd hi.1 hi.2, lcM_back nd f hf l fun x hx => h x (List.mem_cons_of_mem _ hx)]
    rfl
theorem foldl_mem {β : Type} (g : β → β → β) (hg : ∀ a b, g a b = a ∨ g a b = b) : ∀ (bs : List β) (b : β), bs.foldl g b ∈ b :: bs
  | [], b => List.mem_cons_self ..
  | y :: bs, b => by
    have := foldl_mem g hg bs (g b y)
    rw [List.foldl_cons]
    rcases List.mem_cons.mp this with h | h
    · rw [h]
      rcases hg b y with e | e <;> rw [e] <;> simp
    · simp [h]
theorem minF_mem {β : Type} [Ordd β] (b : β) (bs : List β) : minF b bs ∈ b :: bs := foldl_mem _ (fun a y => by by_cases h : Ordd.lt y a = true <;> simp [h]) bs b
theorem maxF_mem {β : Type} [Ordd β] (b : β) (bs : List β) : maxF b bs ∈ b :: bs := foldl_mem _ (fun a y => by by_cases h : Ordd.lt a y = true <;> simp [h]) bs b
theorem minF_pt : ∀ (bs : List Pt) (b m : Pt), m ∈ b :: bs → (∀ x ∈ b :: bs, ¬ lx x m) → minF b bs = m
  | [], b, m, hm, _ => (List.mem_singleton.mp hm).symm
  | y :: bs, b, m, hm, h => by
    have e : minF b (y :: bs) = minF (if Ordd.lt y b then y else b) bs := rfl
    rw [e]
    have hb := h b (by simp)
    have hy := h y (by simp)
    by_cases hl : lx y b
    · rw [if_pos (show Ordd.lt y b = true from decide_eq_true hl)]
      refine minF_pt bs y m ?_ fun x hx => h x (by rcases List.mem_cons.mp hx with k | k <;> simp [k])
      rcases List.mem_cons.mp hm with rfl | hm
      · exact absurd hl hy
      · exact hm
    · rw [if_neg (show ¬ Ordd.lt y b = true by rw [lt_lx, decide_eq_true_eq]; exact hl)]
      refine minF_pt bs b m ?_ fun x hx => h x (by rcases List.mem_cons.mp hx with k | k <;> simp [k])
      rcases List.mem_cons.mp hm with rfl | hm
      · exact List.mem_cons_self ..
      · rcases List.mem_cons.mp hm with rfl | hm
        · rw [lx_total hb hl]
          exact List.mem_cons_self ..
        · exact List.mem_cons_of_mem _ hm
theorem dd_go {α : Type} [DecidableEq α] : ∀ (l s : List α), (s ++ l).Nodup → l.foldl (fun s v => if v ∈ s then s else s ++ [v]) s = s ++ l
  | [], s, _ => by simp
  | v :: l, s, h => by
    have hv : v ∉ s := fun z => (List.nodup_append.mp h).2.2 v z v (by simp) rfl
    rw [List.foldl_cons, if_neg hv, dd_go l (s ++ [v]) (by simpa using h)]
    simp
theorem dd_nodup {α : Type} [DecidableEq α] {l : List α} (h : l.Nodup) : dd l = l := by
  unfold dd
  rw [dd_go l [] (by simpa using h), List.nil_append]
/-! ### the hull, as told -/
/-- what a side of the hull keeps -/
def Side (p : Int → Pt) (D F : List Int) (a b : Int) : Prop := a ≠ b ∧ ∀ x ∈ D, 0 ≤ area (p a) (p b) (p x) ∧ (area (p a) (p b) (p x) = 0 → x ∈ F ∧ 0 ≤ ((p a).1 - (p x).1) * ((p b).1 - (p x).1) + ((p a).2 - (p x).2) * ((p b).2 - (p x).2))
theorem dot_of {a b x : Pt} (ab : lx a b) (h0 : area a b x = 0) (nb : ¬ (lx a x ∧ lx x b)) : 0 ≤ (a.1 - x.1) * (b.1 - x.1) + (a.2 - x.2) * (b.2 - x.2) := by
  by_cases h1 : lx a x
  · have h2 : ¬ lx x b := fun z => nb ⟨h1, z⟩
    have hv : lp (vec b x) ∨ vec b x = (0, 0) := by
      by_cases z : lx b x
      · exact .inl (lp_vec.mpr z)
      · have := lx_total z h2
        subst this
        exact .inr (by unfold vec; simp)
    have := dot_nn (.inl (lp_vec.mpr h1)) hv (by unfold crs vec; unfold area at h0; grind)
    unfold vec at this
    dsimp at this
    have e : (a.1 - x.1) * (b.1 - x.1) + (a.2 - x.2) * (b.2 - x.2) = (x.1 - a.1) * (x.1 - b.1) + (x.2 - a.2) * (x.2 - b.2) := by grind
    omega
  · have ha : lp (vec x a) ∨ vec x a = (0, 0) := by
      by_cases z : lx x a
      · exact .inl (lp_vec.mpr z)
      · have := lx_total h1 z
        subst this
        exact .inr (by unfold vec; simp)
    have hb : lx x b := by
      by_cases z : lx x a
      · exact lx_trans z ab
      · have := lx_total h1 z
        subst this
        exact ab
    have := dot_nn ha (.inl (lp_vec.mpr hb)) (by unfold crs vec; unfold area at h0; grind)
    exact this
theorem side_low {p : Int → Pt} {D C F : List Int} (H : Chain 1 p (fun x => x ∈ D) C) (hF : ∀ x ∈ C, x ∈ F) {a b : Int} (he : (a, b) ∈ prs C) : Side p D F a b := by
  have ab := prs_lx H.up he
  refine ⟨fun e => lx_irrefl (p b) (by dsimp at ab; rw [e] at ab; exact ab), fun x hx => ⟨by have := H.sup _ he x hx; unfold Ar at this; dsimp at this; omega, fun z => ?_⟩⟩
  obtain ⟨f1, f2⟩ := H.flat _ he x hx (by unfold Ar; dsimp; omega)
  exact ⟨hF x f1, dot_of ab z f2⟩
theorem side_upp {p : Int → Pt} {D C F : List Int} (H : Chain (-1) p (fun x => x ∈ D) C) (hF : ∀ x ∈ C, x ∈ F) {a b : Int} (he : (b, a) ∈ prs C) : Side p D F a b := by
  have ab := prs_lx H.up he
  refine ⟨fun e => lx_irrefl (p b) (by dsimp at ab; rw [e] at ab; exact ab), fun x hx => ⟨by have := H.sup _ he x hx; unfold Ar at this; dsimp at this; rw [area_flip]; omega, fun z => ?_⟩⟩
  rw [area_flip] at z
  obtain ⟨f1, f2⟩ := H.flat _ he x hx (by unfold Ar; dsimp; omega)
  have := dot_of ab (by dsimp; omega) f2
  dsimp at this
  refine ⟨hF x f1, ?_⟩
  have e : ((p a).1 - (p x).1) * ((p b).1 - (p x).1) + ((p a).2 - (p x).2) * ((p b).2 - (p x).2) = ((p b).1 - (p x).1) * ((p a).1 - (p x).1) + ((p b).2 - (p x).2) * ((p a).2 - (p x).2) := by grind
  omega
/-- round the hull from its first -/
theorem hull_sides {p : Int → Pt} {D U Lo : List Int} {l r : Int} (H : Hull p (fun x => x ∈ D) U Lo l r) : ∀ e ∈ cyc (l :: Lo ++ r :: U), Side p D (l :: Lo ++ r :: U) e.1 e.2 := by
  intro e he
  have e1 : cyc (l :: Lo ++ r :: U) = prs (l :: Lo ++ [r]) ++ prs (r :: U ++ [l]) := by
    show prs (l :: Lo ++ r :: U ++ [l]) = _
    rw [show l :: Lo ++ r :: U ++ [l] = (l :: Lo) ++ r :: (U ++ [l]) by simp, prs_app]
    rfl
  rw [e1] at he
  rcases List.mem_append.mp he with h | h
  · exact side_low H.low (fun x hx => by
      rcases List.mem_append.mp hx with k | k
      · exact List.mem_append.mpr (.inl k)
      · rw [List.mem_singleton.mp k]; simp) h
  · have e2 : r :: U ++ [l] = (l :: U.reverse ++ [r]).reverse := by simp
    rw [e2, prs_rev] at h
    obtain ⟨e', he', rfl⟩ := List.mem_map.mp (List.mem_reverse.mp h)
    exact side_upp H.upp (fun x hx => by
      simp only [List.cons_append, List.mem_cons, List.mem_append, List.mem_reverse, List.not_mem_nil, or_false] at hx ⊢
      rcases hx with k | k | k
      · exact .inl k
      · exact .inr (.inr (.inr k))
      · exact .inr (.inr (.inl k))) he'
theorem cyc_prev (F : List Int) {j : Nat} (h : j < F.length) : ∃ a b, oidx (some F) (osub (some (j : Int)) (some (1 : Int))) = some a ∧ oidx (some F) (some (j : Int)) = some b ∧ (a, b) ∈ cyc F := by
  have hne : F ≠ [] := fun z => by rw [z] at h; exact absurd h (Nat.not_lt_zero _)
  cases j with
  | zero =>
    obtain ⟨a, b, h1, h2, h3⟩ := cyc_get F (j := F.length - 1) (by omega)
    rw [show F.length - 1 + 1 = F.length by omega, Nat.mod_self] at h2
    refine ⟨a, b, ?_, by rw [idx_nat, h2], List.mem_of_getElem? h3⟩
    rw [osub_s]
    show oidx _ (some (-1 : Int)) = _
    rw [idx_last hne, List.getLast?_eq_getElem?, h1]
  | succ j =>
    obtain ⟨a, b, h1, h2, h3⟩ := cyc_get F (j := j) (by omega)
    rw [Nat.mod_eq_of_lt h] at h2
    refine ⟨a, b, ?_, by rw [idx_nat, h2], List.mem_of_getElem? h3⟩
    rw [osub_s, show (((j + 1 : Nat) : Int) - 1) = (j : Int) by omega, idx_nat, h1]
theorem ominL_pt {pts : List Pt} {m : Pt} (hm : m ∈ pts) (h : ∀ x ∈ pts, ¬ lx x m) : ominL (some pts) = some m := by
  cases pts with
  | nil => cases hm
  | cons a R =>
    show some (minF a R) = _
    rw [minF_pt R a m hm h]
theorem ominL_in {F : List Int} (h : F ≠ []) : ∃ m, ominL (some F) = some m ∧ m ∈ F := by
  cases F with
  | nil => exact absurd rfl h
  | cons b bs => exact ⟨_, rfl, minF_mem b bs⟩
theorem omaxL_in {F : List Int} (h : F ≠ []) : ∃ m, omaxL (some F) = some m ∧ m ∈ F := by
  cases F with
  | nil => exact absurd rfl h
  | cons b bs => exact ⟨_, rfl, maxF_mem b bs⟩
theorem osetl_nd {F : List Int} (h : F.Nodup) (hl : F.length ≤ 4000) : osetl (some F) = some (F.length : Int) := by
  show (if decide (F.length ≤ 4000) = true then some ((dd F).length : Int) else none) = _
  rw [if_pos (decide_eq_true hl), dd_nodup h]
theorem idx_mem {α : Type} {F : List α} {i : Int} {a : α} (h0 : 0 ≤ i) (h : oidx (some F) (some i) = some a) : a ∈ F := by
  rw [idx_i h0] at h
  exact List.mem_of_getElem? h
end T
/-! plain geometry: how often a triangle's way goes round a spot; two sides of a hull over one spot are one -/
namespace T
/-- the way from a to b passes x's row upwards, on the right of x -/
def upw (a b x : Pt) : Int := if a.2 ≤ x.2 ∧ x.2 < b.2 ∧ 0 < area a b x then 1 else 0
def wnd (a b x : Pt) : Int := upw a b x - upw b a x
theorem wnd_anti (a b x : Pt) : wnd b a x = - wnd a b x := by unfold wnd; omega
theorem upw_nn (a b x : Pt) : 0 ≤ upw a b x := by unfold upw; split <;> omega
theorem upw_one (a b x : Pt) : upw a b x ≤ 1 := by unfold upw; split <;> omega
theorem upw_f {a b x : Pt} (h : ¬ (a.2 ≤ x.2 ∧ x.2 < b.2)) : upw a b x = 0 := by unfold upw; rw [if_neg]; omega
theorem upw_t {a b x : Pt} (h : a.2 ≤ x.2 ∧ x.2 < b.2) : upw a b x = if 0 < area a b x then 1 else 0 := by
  unfold upw
  by_cases k : 0 < area a b x
  · rw [if_pos ⟨h.1, h.2, k⟩, if_pos k]
  · rw [if_neg (fun z => k z.2.2), if_neg k]
def trw (a b c x : Pt) : Int := wnd a b x + wnd b c x + wnd c a x
theorem trw_rot (a b c x : Pt) : trw b c a x = trw a b c x := by unfold trw; omega
/-- the plane's identity along the second number -/
theorem area_y (a b c x : Pt) : (c.2 - a.2) * area a b x = (b.2 - a.2) * area a c x + (x.2 - a.2) * area a b c := by unfold area; grind
theorem neg_of_mul {a b : Int} (ha : a < 0) (h : 0 < a * b) : b < 0 := by
  have : 0 < (-a) * (-b) := by rw [Int.neg_mul_neg]; exact h
  have := pos_of_mul (by omega) this
  omega
theorem tri_lo {a b c x : Pt} (h : 0 < area a b c) (ha : a.2 ≤ x.2) (hb : x.2 < b.2) (hc : x.2 < c.2) : trw a b c x = (if 0 < area a b x then 1 else 0) - (if 0 < area a c x then 1 else 0) ∧ (0 < area a c x → 0 < area a b x) := by
  refine ⟨?_, fun k => ?_⟩
  · unfold trw wnd
    rw [upw_t ⟨ha, hb⟩, upw_t ⟨ha, hc⟩, upw_f (a := b) (b := a) (by omega), upw_f (a := b) (b := c) (by omega), upw_f (a := c) (b := b) (by omega), upw_f (a := c) (b := a) (by omega)]
    omega
  · refine pos_of_mul (a := c.2 - a.2) (by omega) ?_
    rw [area_y]
    exact Int.add_pos_of_pos_of_nonneg (mul_pos' (by omega) k) (mul_nn (by omega) (by omega))
theorem tri_hi {a b c x : Pt} (h : 0 < area a b c) (ha : x.2 < a.2) (hb : b.2 ≤ x.2) (hc : c.2 ≤ x.2) : trw a b c x = (if 0 < area c a x then 1 else 0) - (if 0 < area b a x then 1 else 0) ∧ (0 < area b a x → 0 < area c a x) := by
  refine ⟨?_, fun k => ?_⟩
  · unfold trw wnd
    rw [upw_t ⟨hb, ha⟩, upw_t ⟨hc, ha⟩, upw_f (a := a) (b := b) (by omega), upw_f (a := b) (b := c) (by omega), upw_f (a := c) (b := b) (by omega), upw_f (a := a) (b := c) (by omega)]
    omega
  · rw [area_flip] at k ⊢
    have e := area_y a b c x
    have h1 : 0 < (c.2 - a.2) * area a b x := Int.mul_pos_of_neg_of_neg (by omega) (by omega)
    have h2 : (x.2 - a.2) * area a b c < 0 := Int.mul_neg_of_neg_of_pos (by omega) h
    have := neg_of_mul (a := b.2 - a.2) (b := area a c x) (by omega) (by omega)
    omega
def Inn (a b c x : Pt) : Prop := 0 < area a b x ∧ 0 < area b c x ∧ 0 < area c a x
theorem Inn.rot {a b c x : Pt} (h : Inn a b c x) : Inn b c a x := ⟨h.2.1, h.2.2, h.1⟩
theorem bary (a b c x : Pt) : area b c x * (a.2 - x.2) + area c a x * (b.2 - x.2) + area a b x * (c.2 - x.2) = 0 := by unfold area; grind
theorem bary1 (a b c x : Pt) : area b c x * (a.1 - x.1) + area c a x * (b.1 - x.1) + area a b x * (c.1 - x.1) = 0 := by unfold area; grind
theorem area_sum (a b c x : Pt) : area a b x + area b c x + area c a x = area a b c := by unfold area; grind
theorem Inn.pos {a b c x : Pt} (h : Inn a b c x) : 0 < area a b c := by
  have := area_sum a b c x
  obtain ⟨h1, h2, h3⟩ := h
  omega
theorem trw_two (a b c x : Pt) (h : 0 < area a b c) : (trw a b c x = 0 ∨ trw a b c x = 1) ∧ (Inn a b c x → trw a b c x = 1) := by
  have lo : ∀ {a b c : Pt}, 0 < area a b c → a.2 ≤ x.2 → x.2 < b.2 → x.2 < c.2 → (trw a b c x = 0 ∨ trw a b c x = 1) ∧ (Inn a b c x → trw a b c x = 1) := fun {a b c} h ha hb hc => by
    obtain ⟨e, k⟩ := tri_lo h ha hb hc
    rw [e]
    refine ⟨?_, fun i => ?_⟩
    · by_cases k1 : 0 < area a c x
      · rw [if_pos k1, if_pos (k k1)]; omega
      · rw [if_neg k1]
        split <;> omega
    · rw [if_pos i.1, if_neg]
      · rfl
      · have := i.2.2
        rw [area_flip] at this
        omega
  have hi : ∀ {a b c : Pt}, 0 < area a b c → x.2 < a.2 → b.2 ≤ x.2 → c.2 ≤ x.2 → (trw a b c x = 0 ∨ trw a b c x = 1) ∧ (Inn a b c x → trw a b c x = 1) := fun {a b c} h ha hb hc => by
    obtain ⟨e, k⟩ := tri_hi h ha hb hc
    rw [e]
    refine ⟨?_, fun i => ?_⟩
    · by_cases k1 : 0 < area b a x
      · rw [if_pos k1, if_pos (k k1)]; omega
      · rw [if_neg k1]
        split <;> omega
    · rw [if_pos i.2.2, if_neg]
      · rfl
      · have := i.1
        rw [area_flip] at this
        omega
  have hb' : 0 < area b c a := by rw [area_rot]; exact h
  have hc' : 0 < area c a b := by rw [area_rot]; exact hb'
  have r1 : trw b c a x = trw a b c x := trw_rot a b c x
  have r2 : trw c a b x = trw a b c x := by rw [trw_rot, trw_rot]
  have i1 : Inn a b c x → Inn b c a x := Inn.rot
  have i2 : Inn a b c x → Inn c a b x := fun h => h.rot.rot
  by_cases ha : a.2 ≤ x.2 <;> by_cases hb : b.2 ≤ x.2 <;> by_cases hc : c.2 ≤ x.2
  · -- all low
    refine ⟨.inl ?_, fun i => ?_⟩
    · unfold trw wnd
      rw [upw_f (a := a) (b := b) (by omega), upw_f (a := b) (b := a) (by omega), upw_f (a := b) (b := c) (by omega), upw_f (a := c) (b := b) (by omega), upw_f (a := c) (b := a) (by omega), upw_f (a := a) (b := c) (by omega)]
      rfl
    · exfalso
      obtain ⟨j1, j2, j3⟩ := i
      have e := bary a b c x
      have f : ∀ {u v : Int}, 0 < u → v ≤ 0 → u * v ≤ 0 ∧ (u * v = 0 → v = 0) := fun {u v} hu hv => by
        have := Int.mul_nonneg (Int.le_of_lt hu) (by omega : 0 ≤ -v)
        rw [Int.mul_neg] at this
        refine ⟨by omega, fun z => ?_⟩
        rcases Int.mul_eq_zero.mp z with z | z <;> omega
      obtain ⟨f1, g1⟩ := f j2 (show a.2 - x.2 ≤ 0 by omega)
      obtain ⟨f2, g2⟩ := f j3 (show b.2 - x.2 ≤ 0 by omega)
      obtain ⟨f3, g3⟩ := f j1 (show c.2 - x.2 ≤ 0 by omega)
      have e1 := g1 (by omega)
      have e2 := g2 (by omega)
      have e3 := g3 (by omega)
      have : area a b c = 0 := by
        unfold area
        rw [show c.2 - a.2 = 0 by omega, show b.2 - a.2 = 0 by omega]
        simp
      omega
  · have := hi hc' (by omega) (by omega) (by omega)
    rw [r2] at this
    exact ⟨this.1, fun i => this.2 (i2 i)⟩
  · have := hi hb' (by omega) (by omega) (by omega)
    rw [r1] at this
    exact ⟨this.1, fun i => this.2 (i1 i)⟩
  · exact lo h (by omega) (by omega) (by omega)
  · exact hi h (by omega) (by omega) (by omega)
  · have := lo hb' (by omega) (by omega) (by omega)
    rw [r1] at this
    exact ⟨this.1, fun i => this.2 (i1 i)⟩
  · have := lo hc' (by omega) (by omega) (by omega)
    rw [r2] at this
    exact ⟨this.1, fun i => this.2 (i2 i)⟩
  · refine ⟨.inl ?_, fun i => ?_⟩
    · unfold trw wnd
      rw [upw_f (a := a) (b := b) (by omega), upw_f (a := b) (b := a) (by omega), upw_f (a := b) (b := c) (by omega), upw_f (a := c) (b := b) (by omega), upw_f (a := c) (b := a) (by omega), upw_f (a := a) (b := c) (by omega)]
      rfl
    · exfalso
      obtain ⟨j1, j2, j3⟩ := i
      have e := bary a b c x
      have h1 := mul_pos' j2 (show 0 < a.2 - x.2 by omega)
      have h2 := mul_pos' j3 (show 0 < b.2 - x.2 by omega)
      have h3 := mul_pos' j1 (show 0 < c.2 - x.2 by omega)
      omega
/-! ### sides with all on their left -/
def dotp (a b x : Pt) : Int := (a.1 - x.1) * (b.1 - x.1) + (a.2 - x.2) * (b.2 - x.2)
/-- x lies on the left of the way from a to b, or in its row, but not amid -/
def Lft (a b x : Pt) : Prop := 0 ≤ area a b x ∧ (area a b x = 0 → 0 ≤ dotp a b x)
theorem lv_id (a b c d x : Pt) : (d.2 - x.2) * area a b c + (x.2 - c.2) * area a b d + ((b.2 - x.2) * area c d a + (x.2 - a.2) * area c d b) = 0 := by unfold area; grind
theorem col_dot {a b x u : Pt} (hu : 0 < u.2) (h1 : crs u (vec x a) = 0) (h2 : crs u (vec x b) = 0) : u.2 * u.2 * dotp a b x = (u.1 * u.1 + u.2 * u.2) * ((a.2 - x.2) * (b.2 - x.2)) := by
  unfold crs vec at h1 h2
  dsimp only at h1 h2
  unfold dotp
  have e1 : u.2 * (a.1 - x.1) = u.1 * (a.2 - x.2) := by omega
  have e2 : u.2 * (b.1 - x.1) = u.1 * (b.2 - x.2) := by omega
  have : u.2 * u.2 * ((a.1 - x.1) * (b.1 - x.1)) = (u.2 * (a.1 - x.1)) * (u.2 * (b.1 - x.1)) := by grind
  rw [Int.mul_add, this, e1, e2]
  grind
theorem up_same {a b c d x : Pt} (h1 : Lft a b c) (h2 : Lft a b d) (h3 : Lft c d a) (h4 : Lft c d b) (ua : a.2 ≤ x.2) (ub : x.2 < b.2) (uc : c.2 ≤ x.2) (ud : x.2 < d.2) : a = c ∧ b = d := by
  have e := lv_id a b c d x
  have m1 := mul_nn (show 0 ≤ d.2 - x.2 by omega) h1.1
  have m2 := mul_nn (show 0 ≤ x.2 - c.2 by omega) h2.1
  have m3 := mul_nn (show 0 ≤ b.2 - x.2 by omega) h3.1
  have m4 := mul_nn (show 0 ≤ x.2 - a.2 by omega) h4.1
  have z1 : area a b c = 0 := by
    rcases Int.mul_eq_zero.mp (show (d.2 - x.2) * area a b c = 0 by omega) with z | z
    · omega
    · exact z
  have z3 : area c d a = 0 := by
    rcases Int.mul_eq_zero.mp (show (b.2 - x.2) * area c d a = 0 by omega) with z | z
    · omega
    · exact z
  -- the ways are along one line
  have par : crs (vec a b) (vec c d) = 0 := by
    by_cases ac : a = c
    · subst ac
      have y2 := h2.1
      have y4 := h4.1
      have : area a b d = crs (vec a b) (vec a d) := rfl
      have k : area a d b = - area a b d := area_sw a b d
      omega
    · have w1 : crs (vec a c) (vec a b) = 0 := by
        have : crs (vec a c) (vec a b) = - area a b c := by unfold crs vec area; grind
        omega
      have w2 : crs (vec a c) (vec c d) = 0 := by
        have : crs (vec a c) (vec c d) = area c d a := by unfold crs vec area; grind
        omega
      have i1 : (vec a c).1 * crs (vec a b) (vec c d) = (vec a b).1 * crs (vec a c) (vec c d) + (vec c d).1 * crs (vec a b) (vec a c) := crs_x _ _ _
      have i2 : (vec a c).2 * crs (vec a b) (vec c d) = (vec a b).2 * crs (vec a c) (vec c d) + (vec c d).2 * crs (vec a b) (vec a c) := by unfold crs; grind
      rw [w2, crs_neg (vec a c), w1] at i1 i2
      simp only [Int.mul_zero, Int.neg_zero, Int.add_zero] at i1 i2
      rcases Int.mul_eq_zero.mp i1 with z | z
      · rcases Int.mul_eq_zero.mp i2 with z' | z'
        · exact absurd (Prod.ext (by unfold vec at z; dsimp at z; omega) (by unfold vec at z'; dsimp at z'; omega)) ac
        · exact z'
      · exact z
  have z2 : area a b d = 0 := by
    have : area a b d = area a b c + crs (vec a b) (vec c d) := by unfold area crs vec; grind
    omega
  have z4 : area c d b = 0 := by
    have : area c d b = area c d a - crs (vec a b) (vec c d) := by unfold area crs vec; grind
    omega
  have hu : 0 < (vec a b).2 := by unfold vec; dsimp; omega
  -- how far along the line, by the second number
  have key : ∀ {p q y : Pt}, crs (vec a b) (vec y p) = 0 → crs (vec a b) (vec y q) = 0 → 0 ≤ dotp p q y → 0 ≤ (p.2 - y.2) * (q.2 - y.2) := fun {p q y} k1 k2 k3 => by
    have := col_dot hu k1 k2
    have p1 : 0 < (vec a b).1 * (vec a b).1 + (vec a b).2 * (vec a b).2 := by
      have := mul_pos' hu hu
      have s : 0 ≤ (vec a b).1 * (vec a b).1 := by
        rcases Int.le_total 0 (vec a b).1 with z | z
        · exact mul_nn z z
        · have := mul_nn (show 0 ≤ -(vec a b).1 by omega) (show 0 ≤ -(vec a b).1 by omega)
          rw [Int.neg_mul_neg] at this
          exact this
      omega
    refine nonneg_of_mul p1 ?_
    rw [← this]
    exact mul_nn (Int.le_of_lt (mul_pos' hu hu)) k3
  have fin : ∀ {p q : Pt}, crs (vec a b) (vec p q) = 0 → p.2 = q.2 → p = q := fun {p q} k1 k2 => by
    refine Prod.ext ?_ k2
    unfold crs at k1
    have : (vec p q).2 = 0 := by unfold vec; dsimp; omega
    rw [this, Int.mul_zero] at k1
    rcases Int.mul_eq_zero.mp (show (vec a b).2 * (vec p q).1 = 0 by omega) with z | z
    · omega
    · unfold vec at z; dsimp at z; omega
  have c_ca : crs (vec a b) (vec c a) = 0 := by
    have : crs (vec a b) (vec c a) = - area a b c := by unfold crs vec area; grind
    omega
  have c_cb : crs (vec a b) (vec c b) = 0 := by
    have : crs (vec a b) (vec c b) = - area a b c := by unfold crs vec area; grind
    omega
  have c_da : crs (vec a b) (vec d a) = 0 := by
    have : crs (vec a b) (vec d a) = - area a b d := by unfold crs vec area; grind
    omega
  have c_db : crs (vec a b) (vec d b) = 0 := by
    have : crs (vec a b) (vec d b) = - area a b d := by unfold crs vec area; grind
    omega
  have c_ac : crs (vec a b) (vec a c) = 0 := z1
  have c_ad : crs (vec a b) (vec a d) = 0 := z2
  have c_bc : crs (vec a b) (vec b c) = 0 := by rw [← area_crs2]; exact z1
  have c_bd : crs (vec a b) (vec b d) = 0 := by rw [← area_crs2]; exact z2
  have k1 := key c_ca c_cb (h1.2 z1)
  have k2 := key c_da c_db (h2.2 z2)
  have k3 := key c_ac c_ad (h3.2 z3)
  have k4 := key c_bc c_bd (h4.2 z4)
  have le : ∀ {s t : Int}, 0 < t → 0 ≤ s * t → 0 ≤ s := fun {s t} ht h => nonneg_of_mul ht (by rw [Int.mul_comm]; exact h)
  have le' : ∀ {s t : Int}, t < 0 → 0 ≤ t * s → s ≤ 0 := fun {s t} ht h => by
    have : 0 ≤ (-t) * (-s) := by rw [Int.neg_mul_neg]; exact h
    have := nonneg_of_mul (by omega) this
    omega
  have y1 := le (by omega) k1
  have y3 := le (by omega) k3
  have y2 := le' (by omega) k2
  have y4 := le' (by omega) k4
  exact ⟨fin c_ac (by omega), fin c_bd (by omega)⟩
end T
/-! nets of triangles: no two lie one upon the other -/
namespace T
/-! ### sums over lists -/
def lsum {α : Type} (f : α → Int) : List α → Int
  | [] => 0
  | a :: r => f a + lsum f r
section
variable {α β : Type}
theorem lsum_cons (f : α → Int) (a : α) (r : List α) : lsum f (a :: r) = f a + lsum f r := rfl
theorem lsum_app (f : α → Int) : ∀ l m : List α, lsum f (l ++ m) = lsum f l + lsum f m
  | [], m => by simp [lsum]
  | a :: r, m => by
    show f a + lsum f (r ++ m) = f a + lsum f r + lsum f m
    rw [lsum_app f r m]
    omega
theorem lsum_perm {f : α → Int} {l m : List α} (h : l.Perm m) : lsum f l = lsum f m := by
  induction h with
  | nil => rfl
  | cons a _ ih => show f a + _ = f a + _; rw [ih]
  | swap a b l => show f b + (f a + _) = f a + (f b + _); omega
  | trans _ _ i j => rw [i, j]
theorem lsum_map (g : β → α) (f : α → Int) : ∀ l : List β, lsum f (l.map g) = lsum (fun x => f (g x)) l
  | [] => rfl
  | a :: r => by show f (g a) + _ = f (g a) + _; rw [lsum_map g f r]
theorem lsum_flat (g : β → List α) (f : α → Int) : ∀ l : List β, lsum f (l.flatMap g) = lsum (fun x => lsum f (g x)) l
  | [] => rfl
  | a :: r => by rw [List.flatMap_cons, lsum_app, lsum_flat g f r]; rfl
theorem lsum_neg (f : α → Int) : ∀ l : List α, lsum (fun x => - f x) l = - lsum f l
  | [] => rfl
  | a :: r => by show - f a + _ = - (f a + _); rw [lsum_neg f r]; omega
theorem lsum_congr {f g : α → Int} : ∀ {l : List α}, (∀ x ∈ l, f x = g x) → lsum f l = lsum g l
  | [], _ => rfl
  | a :: r, h => by show f a + _ = g a + _; rw [h a (by simp), lsum_congr fun x hx => h x (by simp [hx])]
theorem lsum_le {f g : α → Int} : ∀ {l : List α}, (∀ x ∈ l, f x ≤ g x) → lsum f l ≤ lsum g l
  | [], _ => Int.le_refl _
  | a :: r, h => by
    show f a + _ ≤ g a + _
    have := h a (by simp)
    have := lsum_le (l := r) fun x hx => h x (by simp [hx])
    omega
theorem lsum_filter (p : α → Bool) (f : α → Int) : ∀ l : List α, lsum f l = lsum f (l.filter p) + lsum f (l.filter fun x => !p x)
  | [] => rfl
  | a :: r => by
    have := lsum_filter p f r
    rw [lsum_cons, List.filter_cons, List.filter_cons]
    cases p a <;> simp [lsum_cons] <;> omega
theorem lsum_nn {f : α → Int} : ∀ {l : List α}, (∀ x ∈ l, 0 ≤ f x) → 0 ≤ lsum f l
  | [], _ => Int.le_refl _
  | a :: r, h => by
    show 0 ≤ f a + _
    have := h a (by simp)
    have := lsum_nn (l := r) fun x hx => h x (by simp [hx])
    omega
theorem lsum_one {f : α → Int} : ∀ {l : List α}, (∀ x ∈ l, 0 ≤ f x) → ∀ {a}, a ∈ l → f a ≤ lsum f l
  | b :: r, h, a, ha => by
    have hr := lsum_nn (l := r) fun x hx => h x (by simp [hx])
    rw [lsum_cons]
    rcases List.mem_cons.mp ha with rfl | ha
    · omega
    · have := lsum_one (l := r) (fun x hx => h x (by simp [hx])) ha
      have := h b (by simp)
      omega
theorem lsum_two {f : α → Int} : ∀ {l : List α}, (∀ x ∈ l, 0 ≤ f x) → ∀ {a b}, a ∈ l → b ∈ l → a ≠ b → f a + f b ≤ lsum f l
  | c :: r, h, a, b, ha, hb, ne => by
    have h' : ∀ x ∈ r, 0 ≤ f x := fun x hx => h x (by simp [hx])
    rw [lsum_cons]
    rcases List.mem_cons.mp ha with rfl | ha
    · rcases List.mem_cons.mp hb with rfl | hb
      · exact absurd rfl ne
      · have := lsum_one h' hb
        omega
    · rcases List.mem_cons.mp hb with rfl | hb
      · have := lsum_one h' (show a ∈ r by assumption)
        omega
      · have := lsum_two h' ha hb ne
        have := h c (by simp)
        omega
theorem lsum_le1 {f : α → Int} : ∀ {l : List α}, l.Nodup → (∀ x ∈ l, f x ≤ 1) → (∀ x ∈ l, ∀ y ∈ l, 0 < f x → 0 < f y → x = y) → lsum f l ≤ 1
  | [], _, _, _ => (show (0 : Int) ≤ 1 by decide)
  | a :: r, nd, h1, h2 => by
    have n := List.nodup_cons.mp nd
    rw [lsum_cons]
    by_cases k : 0 < f a
    · have : lsum f r ≤ lsum (fun _ => 0) r := lsum_le fun x hx => by
        by_cases z : 0 < f x
        · have := h2 a (by simp) x (by simp [hx]) k z
          rw [this] at n
          exact absurd hx n.1
        · omega
      have z : ∀ l : List α, lsum (fun _ => (0 : Int)) l = 0 := fun l => by
        induction l with
        | nil => rfl
        | cons a r ih => rw [lsum_cons, ih]; rfl
      rw [z] at this
      have := h1 a (by simp)
      omega
    · have := lsum_le1 n.2 (fun x hx => h1 x (by simp [hx])) (fun x hx y hy => h2 x (by simp [hx]) y (by simp [hy]))
      omega
/-- what cancels along a list that is its own reverse -/
theorem lsum_anti {f : α → Int} {g : α → α} {l : List α} (nd : l.Nodup) (hg : ∀ x ∈ l, g x ∈ l) (gg : ∀ x, g (g x) = x) (hf : ∀ x, f (g x) = - f x) : lsum f l = 0 := by
  have inj : ∀ x y, g x = g y → x = y := fun x y e => by rw [← gg x, e, gg]
  have nd2 : (l.map g).Nodup := List.Pairwise.map g (fun a b hab e => hab (inj a b e)) nd
  have p : l.Perm (l.map g) := (List.perm_ext_iff_of_nodup nd nd2).mpr fun x => ⟨fun hx => List.mem_map.mpr ⟨g x, hg x hx, gg x⟩, fun hx => by
    obtain ⟨y, hy, rfl⟩ := List.mem_map.mp hx
    exact hg y hy⟩
  have e := lsum_perm (f := f) p
  rw [lsum_map, lsum_congr (g := fun x => - f x) (fun x _ => hf x), lsum_neg] at e
  omega
end
/-! ### steps -/
def stp (t : Tri) : List (Int × Int) := [(t.a, t.b), (t.b, t.c), (t.c, t.a)]
def stps (N : List Tri) : List (Int × Int) := N.flatMap stp
theorem mem_stps {N : List Tri} {e : Int × Int} : e ∈ stps N ↔ ∃ t ∈ N, e ∈ stp t := List.mem_flatMap
theorem swp_swp (e : Int × Int) : swp (swp e) = e := rfl
theorem stps_cons (t : Tri) (N : List Tri) : stps (t :: N) = stp t ++ stps N := List.flatMap_cons
theorem stps_app (M N : List Tri) : stps (M ++ N) = stps M ++ stps N := List.flatMap_append
/-- triangles over the points S that fill them -/
structure Net (p : Int → Pt) (S : List Int) (N : List Tri) : Prop where
  inj : ∀ x ∈ S, ∀ y ∈ S, p x = p y → x = y
  pos : ∀ t ∈ N, 0 < area (p t.a) (p t.b) (p t.c)
  nd : (stps N).Nodup
  inS : ∀ e ∈ stps N, e.1 ∈ S
  sup : ∀ e ∈ stps N, swp e ∉ stps N → ∀ x ∈ S, Lft (p e.1) (p e.2) (p x)
  all : ∀ x ∈ S, ∃ e ∈ stps N, e.1 = x
def InnT (p : Int → Pt) (t : Tri) (x : Pt) : Prop := Inn (p t.a) (p t.b) (p t.c) x
/-- t, begun at another of its numbers -/
def rot (t : Tri) : Tri := ⟨t.b, t.c, t.a⟩
theorem rot3 (t : Tri) : rot (rot (rot t)) = t := rfl
theorem stp_rot (t : Tri) : (stp (rot t)).Perm (stp t) := by
  unfold stp rot
  exact (List.perm_append_comm (l₁ := [(t.b, t.c), (t.c, t.a)]) (l₂ := [(t.a, t.b)]))
theorem stp_fst {t : Tri} {e : Int × Int} (h : e ∈ stp t) : ∃ u : Tri, (u = t ∨ u = rot t ∨ u = rot (rot t)) ∧ e = (u.a, u.b) := by
  unfold stp at h
  simp only [List.mem_cons, List.not_mem_nil, or_false] at h
  rcases h with rfl | rfl | rfl
  · exact ⟨t, .inl rfl, rfl⟩
  · exact ⟨rot t, .inr (.inl rfl), rfl⟩
  · exact ⟨rot (rot t), .inr (.inr rfl), rfl⟩
section
variable {p : Int → Pt} {S : List Int} {N : List Tri}
/-- the ends of a step stand in S -/
theorem stp_snd {t : Tri} {e : Int × Int} (h : e ∈ stp t) : ∃ e' ∈ stp t, e'.1 = e.2 := by
  unfold stp at *
  simp only [List.mem_cons, List.not_mem_nil, or_false] at h
  rcases h with rfl | rfl | rfl <;> simp
theorem Net.in2 (H : Net p S N) {e : Int × Int} (h : e ∈ stps N) : e.2 ∈ S := by
  obtain ⟨t, ht, he⟩ := mem_stps.mp h
  obtain ⟨e', h1, h2⟩ := stp_snd he
  rw [← h2]
  exact H.inS e' (mem_stps.mpr ⟨t, ht, h1⟩)
theorem Net.ndN (H : Net p S N) : N.Nodup := by
  have := H.nd
  clear H
  induction N with
  | nil => exact List.nodup_nil
  | cons t r ih =>
    rw [stps_cons] at this
    have h := List.nodup_append.mp this
    refine List.nodup_cons.mpr ⟨fun z => ?_, ih h.2.1⟩
    exact h.2.2 (t.a, t.b) (by unfold stp; simp) (t.a, t.b) (mem_stps.mpr ⟨t, z, by unfold stp; simp⟩) rfl
/-- over each spot lies at most one triangle -/
theorem Net.wind (H : Net p S N) (x : Pt) : lsum (fun t : Tri => trw (p t.a) (p t.b) (p t.c) x) N ≤ 1 := by
  have e1 : lsum (fun t : Tri => trw (p t.a) (p t.b) (p t.c) x) N = lsum (fun e : Int × Int => wnd (p e.1) (p e.2) x) (stps N) := by
    unfold stps
    rw [lsum_flat]
    refine lsum_congr fun t _ => ?_
    unfold stp trw lsum
    show _ = wnd (p t.a) (p t.b) x + (wnd (p t.b) (p t.c) x + (wnd (p t.c) (p t.a) x + 0))
    omega
  rw [e1, lsum_filter (fun e => decide (swp e ∈ stps N))]
  have z : lsum (fun e : Int × Int => wnd (p e.1) (p e.2) x) ((stps N).filter fun e => decide (swp e ∈ stps N)) = 0 :=
    lsum_anti (g := swp) (H.nd.filter _) (fun e he => by
      rw [List.mem_filter] at he ⊢
      exact ⟨of_decide_eq_true he.2, decide_eq_true (by rw [swp_swp]; exact he.1)⟩) swp_swp (fun e => wnd_anti _ _ _)
  rw [z, Int.zero_add]
  have mem : ∀ e ∈ (stps N).filter (fun e => !decide (swp e ∈ stps N)), e ∈ stps N ∧ swp e ∉ stps N := fun e he => by
    rw [List.mem_filter] at he
    exact ⟨he.1, by simpa using he.2⟩
  refine Int.le_trans (lsum_le (g := fun e : Int × Int => upw (p e.1) (p e.2) x) fun e _ => ?_) ?_
  · show wnd (p e.1) (p e.2) x ≤ upw (p e.1) (p e.2) x
    unfold wnd
    have := upw_nn (p e.2) (p e.1) x
    omega
  · have up : ∀ {a b : Pt}, 0 < upw a b x → a.2 ≤ x.2 ∧ x.2 < b.2 := fun {a b} h => by
      unfold upw at h
      split at h
      · rename_i k; exact ⟨k.1, k.2.1⟩
      · omega
    refine lsum_le1 (H.nd.filter _) (fun e _ => upw_one _ _ _) fun e he f hf ke kf => ?_
    obtain ⟨e1, e2⟩ := mem e he
    obtain ⟨f1, f2⟩ := mem f hf
    obtain ⟨a1, a2⟩ := up ke
    obtain ⟨b1, b2⟩ := up kf
    have s := H.sup e e1 e2
    have s' := H.sup f f1 f2
    have q := up_same (s _ (H.inS f f1)) (s _ (H.in2 f1)) (s' _ (H.inS e e1)) (s' _ (H.in2 e1)) a1 a2 b1 b2
    exact Prod.ext (H.inj _ (H.inS e e1) _ (H.inS f f1) q.1) (H.inj _ (H.in2 e1) _ (H.in2 f1) q.2)
theorem Net.one (H : Net p S N) {t u : Tri} (ht : t ∈ N) (hu : u ∈ N) {x : Pt} (h1 : InnT p t x) (h2 : InnT p u x) : t = u := by
  by_cases e : t = u
  · exact e
  · exfalso
    have w := H.wind x
    have two := lsum_two (f := fun t : Tri => trw (p t.a) (p t.b) (p t.c) x) (fun t ht => by
      rcases (trw_two _ _ _ x (H.pos t ht)).1 with z | z <;> omega) ht hu e
    have a1 := (trw_two _ _ _ x (H.pos t ht)).2 h1
    have a2 := (trw_two _ _ _ x (H.pos u hu)).2 h2
    omega
/-! ### larger by a number -/
def sm (k : Int) (a : Pt) : Pt := (k * a.1, k * a.2)
theorem area_sm (k : Int) (a b c : Pt) : area (sm k a) (sm k b) (sm k c) = k * k * area a b c := by unfold area sm; grind
theorem dotp_sm (k : Int) (a b c : Pt) : dotp (sm k a) (sm k b) (sm k c) = k * k * dotp a b c := by unfold dotp sm; grind
theorem Lft.sm {k : Int} (hk : 0 < k) {a b c : Pt} (h : Lft a b c) : Lft (sm k a) (sm k b) (sm k c) := by
  have kk := mul_pos' hk hk
  unfold Lft
  rw [area_sm, dotp_sm]
  refine ⟨mul_nn (by omega) h.1, fun z => mul_nn (by omega) (h.2 ?_)⟩
  rcases Int.mul_eq_zero.mp z with z | z
  · omega
  · exact z
theorem Net.sm (H : Net p S N) {k : Int} (hk : 0 < k) : Net (fun i => sm k (p i)) S N where
  inj := fun x hx y hy e => H.inj x hx y hy (by
    unfold T.sm at e
    have e1 := congrArg Prod.fst e
    have e2 := congrArg Prod.snd e
    exact Prod.ext (Int.eq_of_mul_eq_mul_left (by omega) e1) (Int.eq_of_mul_eq_mul_left (by omega) e2))
  pos := fun t ht => by
    rw [area_sm]
    exact mul_pos' (mul_pos' hk hk) (H.pos t ht)
  nd := H.nd
  inS := H.inS
  sup := fun e h1 h2 x hx => (H.sup e h1 h2 x hx).sm hk
  all := H.all
/-! ### spots as near to one as we like, into a direction -/
/-- the spot next to c into the direction v lies on the left of the way from a to b -/
def Gl (a b c v : Pt) : Prop := 0 < area a b c ∨ area a b c = 0 ∧ 0 < crs (vec a b) v
def GermT (p : Int → Pt) (t : Tri) (c v : Pt) : Prop := Gl (p t.a) (p t.b) c v ∧ Gl (p t.b) (p t.c) c v ∧ Gl (p t.c) (p t.a) c v
def near1 (k : Int) (c v : Pt) : Pt := (k * c.1 + v.1, k * c.2 + v.2)
theorem area_near (k : Int) (a b c v : Pt) : area (T.sm k a) (T.sm k b) (near1 k c v) = k * (k * area a b c + crs (vec a b) v) := by unfold area T.sm near1 crs vec; grind
theorem Gl.big {a b c v : Pt} (h : Gl a b c v) {k : Int} (hk : ((crs (vec a b) v).natAbs : Int) < k) : 0 < area (T.sm k a) (T.sm k b) (near1 k c v) := by
  rw [area_near]
  refine mul_pos' (by omega) ?_
  rcases h with h | ⟨h1, h2⟩
  · have : k * 1 ≤ k * area a b c := Int.mul_le_mul_of_nonneg_left (by omega) (by omega)
    omega
  · rw [h1, Int.mul_zero]
    omega
theorem Net.germ (H : Net p S N) {t u : Tri} (ht : t ∈ N) (hu : u ∈ N) {c v : Pt} (h1 : GermT p t c v) (h2 : GermT p u c v) : t = u := by
  let m (a b : Int) : Int := ((crs (vec (p a) (p b)) v).natAbs : Int)
  let k : Int := 1 + m t.a t.b + m t.b t.c + m t.c t.a + m u.a u.b + m u.b u.c + m u.c u.a
  have nn : ∀ a b, 0 ≤ m a b := fun a b => Int.natCast_nonneg _
  have n1 := nn t.a t.b
  have n2 := nn t.b t.c
  have n3 := nn t.c t.a
  have n4 := nn u.a u.b
  have n5 := nn u.b u.c
  have n6 := nn u.c u.a
  have hk : 0 < k := by show 0 < 1 + _ + _ + _ + _ + _ + _; omega
  refine (H.sm hk).one ht hu (x := near1 k c v) ⟨?_, ?_, ?_⟩ ⟨?_, ?_, ?_⟩
  · exact h1.1.big (k := k) (by show m t.a t.b < 1 + _ + _ + _ + _ + _ + _; omega)
  · exact h1.2.1.big (k := k) (by show m t.b t.c < 1 + _ + _ + _ + _ + _ + _; omega)
  · exact h1.2.2.big (k := k) (by show m t.c t.a < 1 + _ + _ + _ + _ + _ + _; omega)
  · exact h2.1.big (k := k) (by show m u.a u.b < 1 + _ + _ + _ + _ + _ + _; omega)
  · exact h2.2.1.big (k := k) (by show m u.b u.c < 1 + _ + _ + _ + _ + _ + _; omega)
  · exact h2.2.2.big (k := k) (by show m u.c u.a < 1 + _ + _ + _ + _ + _ + _; omega)
theorem GermT.rot {t : Tri} {c v : Pt} (h : GermT p t c v) : GermT p (T.rot t) c v := ⟨h.2.1, h.2.2, h.1⟩
theorem GermT.of_rot {t u : Tri} (hu : u = t ∨ u = T.rot t ∨ u = T.rot (T.rot t)) {c v : Pt} (h : GermT p u c v) : GermT p t c v := by
  rcases hu with rfl | rfl | rfl
  · exact h
  · exact h.rot.rot
  · exact h.rot
end
end T
/-! nets: the corner round a point, no point within a triangle, a side swapped -/
namespace T
/-- a, b, c is a triangle of N, begun at any of its numbers -/
def Tr (N : List Tri) (a b c : Int) : Prop := (⟨a, b, c⟩ : Tri) ∈ N ∨ (⟨b, c, a⟩ : Tri) ∈ N ∨ (⟨c, a, b⟩ : Tri) ∈ N
section
variable {p : Int → Pt} {S : List Int} {N : List Tri} {a b c d e f g : Int}
theorem Tr.rot (h : Tr N a b c) : Tr N b c a := by
  rcases h with h | h | h
  · exact .inr (.inr h)
  · exact .inl h
  · exact .inr (.inl h)
theorem Tr.of {t : Tri} (h : t ∈ N) : Tr N t.a t.b t.c := .inl h
theorem Tr.mem (h : Tr N a b c) : ∃ t ∈ N, t = ⟨a, b, c⟩ ∨ t = T.rot ⟨a, b, c⟩ ∨ t = T.rot (T.rot ⟨a, b, c⟩) := by
  rcases h with h | h | h
  · exact ⟨_, h, .inl rfl⟩
  · exact ⟨_, h, .inr (.inl rfl)⟩
  · exact ⟨_, h, .inr (.inr rfl)⟩
theorem Tr.stp (h : Tr N a b c) : (a, b) ∈ stps N ∧ (b, c) ∈ stps N ∧ (c, a) ∈ stps N := by
  rcases h with h | h | h
  · exact ⟨mem_stps.mpr ⟨_, h, by simp [T.stp]⟩, mem_stps.mpr ⟨_, h, by simp [T.stp]⟩, mem_stps.mpr ⟨_, h, by simp [T.stp]⟩⟩
  · exact ⟨mem_stps.mpr ⟨_, h, by simp [T.stp]⟩, mem_stps.mpr ⟨_, h, by simp [T.stp]⟩, mem_stps.mpr ⟨_, h, by simp [T.stp]⟩⟩
  · exact ⟨mem_stps.mpr ⟨_, h, by simp [T.stp]⟩, mem_stps.mpr ⟨_, h, by simp [T.stp]⟩, mem_stps.mpr ⟨_, h, by simp [T.stp]⟩⟩
theorem Tr.of_step (h : (a, b) ∈ stps N) : ∃ c, Tr N a b c := by
  obtain ⟨t, ht, he⟩ := mem_stps.mp h
  unfold T.stp at he
  simp only [List.mem_cons, List.not_mem_nil, or_false, Prod.mk.injEq] at he
  rcases he with ⟨rfl, rfl⟩ | ⟨rfl, rfl⟩ | ⟨rfl, rfl⟩
  · exact ⟨t.c, .inl ht⟩
  · exact ⟨t.a, .inr (.inr ht)⟩
  · exact ⟨t.b, .inr (.inl ht)⟩
theorem Tr.pos (h : Tr N a b c) (H : Net p S N) : 0 < area (p a) (p b) (p c) := by
  rcases h with h | h | h
  · exact H.pos _ h
  · have := H.pos _ h; dsimp only at this; rwa [area_rot] at this
  · have := H.pos _ h; dsimp only at this; rwa [area_rot, area_rot] at this
theorem Tr.inS (h : Tr N a b c) (H : Net p S N) : a ∈ S ∧ b ∈ S ∧ c ∈ S := ⟨H.inS _ h.stp.1, H.inS _ h.stp.2.1, H.inS _ h.stp.2.2⟩
/-- the same three numbers, begun elsewhere -/
def SameT (a b c d e f : Int) : Prop := (a = d ∧ b = e ∧ c = f) ∨ (a = e ∧ b = f ∧ c = d) ∨ (a = f ∧ b = d ∧ c = e)
def Germ (p : Int → Pt) (a b c : Int) (q v : Pt) : Prop := Gl (p a) (p b) q v ∧ Gl (p b) (p c) q v ∧ Gl (p c) (p a) q v
theorem Net.germ3 (H : Net p S N) (h1 : Tr N a b c) (h2 : Tr N d e f) {q v : Pt} (g1 : Germ p a b c q v) (g2 : Germ p d e f q v) : SameT a b c d e f := by
  obtain ⟨t, ht, et⟩ := h1.mem
  obtain ⟨u, hu, eu⟩ := h2.mem
  have k1 : GermT p t q v := by
    rcases et with rfl | rfl | rfl
    · exact g1
    · exact ⟨g1.2.1, g1.2.2, g1.1⟩
    · exact ⟨g1.2.2, g1.1, g1.2.1⟩
  have k2 : GermT p u q v := by
    rcases eu with rfl | rfl | rfl
    · exact g2
    · exact ⟨g2.2.1, g2.2.2, g2.1⟩
    · exact ⟨g2.2.2, g2.1, g2.2.1⟩
  have := H.germ ht hu k1 k2
  subst this
  unfold SameT
  rcases et with rfl | rfl | rfl <;> rcases eu with z | z | z <;> simp only [T.rot, Tri.mk.injEq] at z <;> obtain ⟨z1, z2, z3⟩ := z <;> subst z1 <;> subst z2 <;> subst z3 <;> simp
/-- one triangle over a step -/
theorem Net.top1 (H : Net p S N) (h1 : Tr N a b c) (h2 : Tr N a b d) : c = d := by
  have s : ∀ {c d : Int}, Tr N a b c → Tr N a b d → Germ p a b c ((p a).1, (p a).2) (vec (p a) (p b)) ∨ True := fun _ _ => .inr trivial
  obtain ⟨t, ht, et⟩ := h1.mem
  obtain ⟨u, hu, eu⟩ := h2.mem
  have nd := H.nd
  have key : t = u := by
    by_cases e : t = u
    · exact e
    · exfalso
      have st : (a, b) ∈ T.stp t := by rcases et with rfl | rfl | rfl <;> simp [T.stp, T.rot]
      have su : (a, b) ∈ T.stp u := by rcases eu with rfl | rfl | rfl <;> simp [T.stp, T.rot]
      clear H s h1 h2 et eu
      induction N with
      | nil => cases ht
      | cons x r ih =>
        rw [stps_cons] at nd
        have h := List.nodup_append.mp nd
        rcases List.mem_cons.mp ht with rfl | ht
        · rcases List.mem_cons.mp hu with rfl | hu
          · exact e rfl
          · exact h.2.2 _ st _ (mem_stps.mpr ⟨u, hu, su⟩) rfl
        · rcases List.mem_cons.mp hu with rfl | hu
          · exact h.2.2 _ su _ (mem_stps.mpr ⟨t, by assumption, st⟩) rfl
          · exact ih (by assumption) (by assumption) h.2.1
  subst key
  have ne : 0 < area (p a) (p b) (p c) := h1.pos H
  have n1 : a ≠ b := fun z => by rw [z, area_aab] at ne; omega
  have n2 : b ≠ c := fun z => by rw [z, area_abb] at ne; omega
  have n3 : a ≠ c := fun z => by rw [z, area_aba] at ne; omega
  rcases et with rfl | rfl | rfl <;> rcases eu with z | z | z <;> simp only [T.rot, Tri.mk.injEq] at z <;> omega
theorem vne (h : 0 < area (p a) (p b) (p c)) : a ≠ b ∧ b ≠ c ∧ c ≠ a := ⟨fun z => by rw [z, area_aab] at h; omega, fun z => by rw [z, area_abb] at h; omega, fun z => by rw [z, area_aba] at h; omega⟩
theorem area_rot2 (a b c : Pt) : area c a b = area a b c := by rw [area_rot, area_rot]
/-- into the corner at c -/
theorem germ_at (h : 0 < area (p c) (p a) (p b)) {v : Pt} (h1 : 0 < crs (vec (p c) (p a)) v) (h2 : 0 < crs v (vec (p c) (p b))) : Germ p c a b (p c) v := by
  refine ⟨.inr ⟨area_aba _ _, h1⟩, .inl ?_, .inr ⟨area_abb _ _, ?_⟩⟩
  · rw [area_rot]; exact h
  · rw [crs_vec, crs_neg, crs_vec] at *
    have : crs (vec (p b) (p c)) v = crs v (vec (p c) (p b)) := by unfold crs vec; grind
    omega
theorem plu (a b d e : Pt) : crs a b * crs d e = crs a d * crs b e + crs a e * crs d b := by unfold crs; grind
/-- no two triangles' corners at c lie one upon the other -/
theorem Net.cone (H : Net p S N) (h1 : Tr N c a b) (h2 : Tr N c d e) (k1 : 0 ≤ area (p c) (p a) (p d)) (k2 : 0 < area (p c) (p d) (p b)) : a = d ∧ b = e := by
  have p1 := h1.pos H
  have p2 := h2.pos H
  let A := vec (p c) (p a)
  let B := vec (p c) (p b)
  let D := vec (p c) (p d)
  let E := vec (p c) (p e)
  have q1 : 0 < crs A B := p1
  have q2 : 0 < crs D E := p2
  have q3 : 0 ≤ crs A D := k1
  have q4 : 0 < crs D B := k2
  let M : Int := 1 + (crs A E).natAbs + (crs E B).natAbs
  have hM : 0 < M := by show 0 < 1 + _ + _; omega
  have m1 : -M < crs A E := by show -(1 + _ + _) < _; omega
  have m2 : -M < crs E B := by show -(1 + _ + _) < _; omega
  let v : Pt := (M * D.1 + E.1, M * D.2 + E.2)
  have c1 : ∀ u : Pt, crs u v = M * crs u D + crs u E := fun u => by show crs u (M * D.1 + E.1, M * D.2 + E.2) = _; unfold crs; grind
  have c2 : ∀ u : Pt, crs v u = M * crs D u + crs E u := fun u => by show crs (M * D.1 + E.1, M * D.2 + E.2) u = _; unfold crs; grind
  have self : ∀ u : Pt, crs u u = 0 := fun u => by unfold crs; grind
  have a1 : 0 < crs A v := by
    rw [c1]
    rcases Int.lt_or_eq_of_le q3 with z | z
    · have : M * 1 ≤ M * crs A D := Int.mul_le_mul_of_nonneg_left (by omega) (by omega)
      omega
    · have pl := plu A B D E
      rw [← z, Int.zero_mul, Int.zero_add] at pl
      have := mul_pos' q1 q2
      rw [pl, Int.mul_comm] at this
      have := pos_of_mul q4 this
      rw [← z]
      omega
  have a2 : 0 < crs v B := by
    rw [c2]
    have : M * 1 ≤ M * crs D B := Int.mul_le_mul_of_nonneg_left (by omega) (by omega)
    omega
  have a3 : 0 < crs D v := by rw [c1, self]; omega
  have a4 : 0 < crs v E := by
    rw [c2, self]
    have := mul_pos' hM q2
    omega
  have s := H.germ3 h1 h2 (germ_at p1 a1 a2) (germ_at p2 a3 a4)
  have n1 := vne p1
  have n2 := vne p2
  rcases s with ⟨_, z1, z2⟩ | ⟨z1, z2, z3⟩ | ⟨z1, z2, z3⟩
  · exact ⟨z1, z2⟩
  · exact absurd z3 (fun w => n1.2.2 w)
  · exact absurd z2 (fun w => n1.1 w.symm)
theorem Net.cone_d (H : Net p S N) (h1 : Tr N c a b) (h2 : Tr N c d e) (k1 : 0 < area (p c) (p a) (p d)) (k2 : 0 < area (p c) (p d) (p b)) : False := by
  have := (H.cone h1 h2 (by omega) k2).1
  rw [this, area_abb] at k1
  omega
/-! ### a side swapped -/
theorem Net.flip_new (H : Net p S N) (h1 : Tr N a b c) (h2 : Tr N b a d) (k1 : 0 < area (p a) (p d) (p c)) (k2 : 0 < area (p d) (p b) (p c)) : (c, d) ∉ stps N ∧ (d, c) ∉ stps N := by
  refine ⟨fun h => ?_, fun h => ?_⟩
  · obtain ⟨e, he⟩ := Tr.of_step h
    exact H.cone_d h1.rot.rot he (by rw [area_rot2]; exact k1) (by rw [area_rot2]; exact k2)
  · obtain ⟨e, he⟩ := Tr.of_step h
    exact H.cone_d h2.rot.rot he k2 (by rw [area_rot]; exact k1)
/-- the net with a side swapped, by its steps alone -/
theorem Net.flip (H : Net p S N) (h1 : Tr N a b c) (h2 : Tr N b a d) (k1 : 0 < area (p a) (p d) (p c)) (k2 : 0 < area (p d) (p b) (p c)) {N' : List Tri} (pos : ∀ t ∈ N', 0 < area (p t.a) (p t.b) (p t.c)) (nd : (stps N').Nodup)
    (mem : ∀ e, e ∈ stps N' ↔ (e ∈ stps N ∧ e ≠ (a, b) ∧ e ≠ (b, a)) ∨ e = (c, d) ∨ e = (d, c)) : Net p S N' := by
  have s1 := h1.stp
  have s2 := h2.stp
  have iS := h1.inS H
  have iS2 := h2.inS H
  have n1 := vne (h1.pos H)
  have n2 := vne (h2.pos H)
  refine ⟨H.inj, pos, nd, fun e he => ?_, fun e he hn x hx => ?_, fun x hx => ?_⟩
  · rcases (mem e).mp he with h | rfl | rfl
    · exact H.inS e h.1
    · exact iS.2.2
    · exact iS2.2.2
  · rcases (mem e).mp he with h | rfl | rfl
    · refine H.sup e h.1 (fun z => hn ((mem _).mpr (.inl ⟨z, fun w => ?_, fun w => ?_⟩))) x hx
      · exact h.2.2 (by rw [← swp_swp e, w]; rfl)
      · exact h.2.1 (by rw [← swp_swp e, w]; rfl)
    · exact absurd ((mem (d, c)).mpr (.inr (.inr rfl))) hn
    · exact absurd ((mem (c, d)).mpr (.inr (.inl rfl))) hn
  · obtain ⟨e, he, rfl⟩ := H.all x hx
    by_cases z1 : e = (a, b)
    · subst z1
      exact ⟨(a, d), (mem _).mpr (.inl ⟨s2.2.1, fun w => by simp at w; exact n2.2.2 (by omega), fun w => by simp at w; omega⟩), rfl⟩
    · by_cases z2 : e = (b, a)
      · subst z2
        exact ⟨(b, c), (mem _).mpr (.inl ⟨s1.2.1, fun w => by simp at w; omega, fun w => by simp at w; exact n1.2.2 (by omega)⟩), rfl⟩
      · exact ⟨e, (mem _).mpr (.inl ⟨he, z1, z2⟩), rfl⟩
/-! ### no point lies within a triangle -/
theorem bary3 (a b c x y e : Pt) : area a b c * area x y e = area b c e * area x y a + area c a e * area x y b + area a b e * area x y c := by unfold area; grind
theorem Net.clean (H : Net p S N) (h : Tr N a b c) (he : e ∈ S) (k1 : 0 ≤ area (p a) (p b) (p e)) (k2 : 0 ≤ area (p b) (p c) (p e)) (k3 : 0 ≤ area (p c) (p a) (p e)) : e = a ∨ e = b ∨ e = c := by
  -- on a side's row
  have side : ∀ {a b c : Int}, Tr N a b c → area (p a) (p b) (p e) = 0 → 0 ≤ area (p b) (p c) (p e) → 0 ≤ area (p c) (p a) (p e) → e = a ∨ e = b ∨ e = c := fun {a b c} h z k2 k3 => by
    have P := h.pos H
    have iS := h.inS H
    have by1 := bary1 (p a) (p b) (p c) (p e)
    have by2 := bary (p a) (p b) (p c) (p e)
    have sm := area_sum (p a) (p b) (p c) (p e)
    rw [z, Int.zero_mul, Int.add_zero] at by1 by2
    rcases Int.lt_or_eq_of_le k2 with l2 | l2
    · rcases Int.lt_or_eq_of_le k3 with l3 | l3
      · -- amid a and b
        obtain ⟨s, hs, hs1⟩ := H.all e he
        obtain ⟨g, hg⟩ := Tr.of_step (a := s.1) (b := s.2) hs
        rw [hs1] at hg
        generalize s.2 = f at hg
        have pg := hg.pos H
        let F := vec (p e) (p f)
        let G := vec (p e) (p g)
        have q : 0 < crs F G := pg
        -- any direction into the corner
        have corner : ∀ {m n : Int}, 0 < m → 0 < n → Germ p e f g (p e) (m * F.1 + n * G.1, m * F.2 + n * G.2) := fun {m n} hm hn => by
          refine germ_at pg ?_ ?_
          · have : crs F (m * F.1 + n * G.1, m * F.2 + n * G.2) = n * crs F G := by unfold crs; grind
            show 0 < crs F _
            rw [this]
            exact mul_pos' hn q
          · have : crs (m * F.1 + n * G.1, m * F.2 + n * G.2) G = m * crs F G := by unfold crs; grind
            show 0 < crs _ G
            rw [this]
            exact mul_pos' hm q
        have same_in : ∀ {x y w : Int}, SameT x y w e f g → e = x ∨ e = y ∨ e = w := fun {x y w} s => by unfold SameT at s; omega
        -- on the left of the side
        have left : ∀ {v : Pt}, Germ p e f g (p e) v → 0 < crs (vec (p a) (p b)) v → e = a ∨ e = b ∨ e = c := fun {v} g1 hv =>
          same_in (H.germ3 h hg ⟨.inr ⟨z, hv⟩, .inl l2, .inl l3⟩ g1)
        -- on its right
        have right : ∀ {v : Pt}, Germ p e f g (p e) v → crs (vec (p a) (p b)) v < 0 → e = a ∨ e = b ∨ e = c := fun {v} g1 hv => by
          by_cases hb : (b, a) ∈ stps N
          · obtain ⟨d, hd⟩ := Tr.of_step hb
            have pd := hd.pos H
            have e1 := bary3 (p a) (p b) (p c) (p a) (p d) (p e)
            have e2 := bary3 (p a) (p b) (p c) (p d) (p b) (p e)
            rw [z, Int.zero_mul, Int.add_zero] at e1 e2
            rw [area_aba, Int.mul_zero, Int.zero_add] at e1
            rw [area_abb, Int.mul_zero, Int.add_zero] at e2
            have r1 : area (p a) (p d) (p b) = area (p b) (p a) (p d) := by unfold area; grind
            have r2 : area (p d) (p b) (p a) = area (p b) (p a) (p d) := by unfold area; grind
            have u1 : 0 < area (p a) (p d) (p e) := pos_of_mul P (by rw [e1, r1]; exact mul_pos' l3 pd)
            have u2 : 0 < area (p d) (p b) (p e) := pos_of_mul P (by rw [e2, r2]; exact mul_pos' l2 pd)
            have := same_in (H.germ3 hd hg ⟨.inr ⟨by rw [area_flip, z]; rfl, by rw [crs_neg, crs_vec, crs_neg]; omega⟩, .inl u1, .inl u2⟩ g1)
            rcases this with rfl | rfl | rfl
            · exact .inr (.inl rfl)
            · exact .inl rfl
            · rw [area_abb] at u1
              omega
          · have L := (H.sup (a, b) h.stp.1 hb e he).2 z
            by_cases eb : e = b
            · exact .inr (.inl eb)
            · exfalso
              -- the two are on two sides of e
              unfold dotp at L
              dsimp only at L
              have id : area (p b) (p c) (p e) * (((p a).1 - (p e).1) * ((p b).1 - (p e).1) + ((p a).2 - (p e).2) * ((p b).2 - (p e).2)) = - (area (p c) (p a) (p e) * (((p b).1 - (p e).1) * ((p b).1 - (p e).1) + ((p b).2 - (p e).2) * ((p b).2 - (p e).2))) := by
                have i1 : area (p b) (p c) (p e) * ((p a).1 - (p e).1) = - (area (p c) (p a) (p e) * ((p b).1 - (p e).1)) := by omega
                have i2 : area (p b) (p c) (p e) * ((p a).2 - (p e).2) = - (area (p c) (p a) (p e) * ((p b).2 - (p e).2)) := by omega
                grind
              have sq : ∀ x : Int, 0 ≤ x * x := fun x => by
                rcases Int.le_total 0 x with w | w
                · exact mul_nn w w
                · have := mul_nn (show 0 ≤ -x by omega) (show 0 ≤ -x by omega)
                  rw [Int.neg_mul_neg] at this
                  exact this
              have s1 := sq ((p b).1 - (p e).1)
              have s2 := sq ((p b).2 - (p e).2)
              have k := mul_nn (Int.le_of_lt l2) L
              rw [id] at k
              have s0 : ((p b).1 - (p e).1) * ((p b).1 - (p e).1) + ((p b).2 - (p e).2) * ((p b).2 - (p e).2) = 0 := by
                rcases Int.lt_or_eq_of_le (Int.add_nonneg s1 s2) with w | w
                · have := mul_pos' l3 w
                  omega
                · exact w.symm
              have t1 : (p b).1 - (p e).1 = 0 := by
                rcases Int.mul_eq_zero.mp (show ((p b).1 - (p e).1) * ((p b).1 - (p e).1) = 0 by omega) with w | w <;> exact w
              have t2 : (p b).2 - (p e).2 = 0 := by
                rcases Int.mul_eq_zero.mp (show ((p b).2 - (p e).2) * ((p b).2 - (p e).2) = 0 by omega) with w | w <;> exact w
              exact eb (H.inj e he b iS.2.1 (Prod.ext (by omega) (by omega)))
        have go : ∀ {v : Pt}, Germ p e f g (p e) v → crs (vec (p a) (p b)) v ≠ 0 → e = a ∨ e = b ∨ e = c := fun {v} g1 hv => by
          rcases Int.lt_trichotomy (crs (vec (p a) (p b)) v) 0 with w | w | w
          · exact right g1 w
          · exact absurd w hv
          · exact left g1 w
        by_cases w1 : crs (vec (p a) (p b)) (1 * F.1 + 1 * G.1, 1 * F.2 + 1 * G.2) = 0
        · by_cases w2 : crs (vec (p a) (p b)) (2 * F.1 + 1 * G.1, 2 * F.2 + 1 * G.2) = 0
          · exfalso
            have f0 : crs (vec (p a) (p b)) F = 0 := by
              have : crs (vec (p a) (p b)) (2 * F.1 + 1 * G.1, 2 * F.2 + 1 * G.2) - crs (vec (p a) (p b)) (1 * F.1 + 1 * G.1, 1 * F.2 + 1 * G.2) = crs (vec (p a) (p b)) F := by unfold crs; grind
              omega
            have g0 : crs (vec (p a) (p b)) G = 0 := by
              have : crs (vec (p a) (p b)) (1 * F.1 + 1 * G.1, 1 * F.2 + 1 * G.2) - crs (vec (p a) (p b)) F = crs (vec (p a) (p b)) G := by unfold crs; grind
              omega
            have i1 := crs_x F (vec (p a) (p b)) G
            have i2 : (vec (p a) (p b)).2 * crs F G = F.2 * crs (vec (p a) (p b)) G + G.2 * crs F (vec (p a) (p b)) := by unfold crs; grind
            rw [g0, crs_neg (vec (p a) (p b)) F, f0] at i1 i2
            simp only [Int.mul_zero, Int.neg_zero, Int.add_zero] at i1 i2
            have x1 : (vec (p a) (p b)).1 = 0 := by rcases Int.mul_eq_zero.mp i1 with w | w <;> omega
            have x2 : (vec (p a) (p b)).2 = 0 := by rcases Int.mul_eq_zero.mp i2 with w | w <;> omega
            have : area (p a) (p b) (p c) = 0 := by
              rw [area_crs]
              unfold crs
              rw [x1, x2]
              simp
            omega
          · exact go (corner (by decide) (by decide)) w2
        · exact go (corner (by decide) (by decide)) w1
      · -- at a
        have : area (p b) (p c) (p e) = area (p a) (p b) (p c) := by omega
        rw [← l3, Int.zero_mul, Int.add_zero] at by1 by2
        refine .inl (H.inj e he a iS.1 (Prod.ext ?_ ?_))
        · rcases Int.mul_eq_zero.mp by1 with w | w <;> omega
        · rcases Int.mul_eq_zero.mp by2 with w | w <;> omega
    · rw [← l2, Int.zero_mul, Int.zero_add] at by1 by2
      refine .inr (.inl (H.inj e he b iS.2.1 (Prod.ext ?_ ?_)))
      · rcases Int.mul_eq_zero.mp by1 with w | w <;> omega
      · rcases Int.mul_eq_zero.mp by2 with w | w <;> omega
  rcases Int.lt_or_eq_of_le k1 with l1 | l1
  · rcases Int.lt_or_eq_of_le k2 with l2 | l2
    · rcases Int.lt_or_eq_of_le k3 with l3 | l3
      · obtain ⟨s, hs, hs1⟩ := H.all e he
        obtain ⟨g, hg⟩ := Tr.of_step (a := s.1) (b := s.2) hs
        rw [hs1] at hg
        have pg := hg.pos H
        let F := vec (p e) (p s.2)
        let G := vec (p e) (p g)
        have q : 0 < crs F G := pg
        have k : Germ p e s.2 g (p e) (F.1 + G.1, F.2 + G.2) := by
          refine germ_at pg ?_ ?_
          · have : crs F (F.1 + G.1, F.2 + G.2) = crs F G := by unfold crs; grind
            show 0 < crs F _
            omega
          · have : crs (F.1 + G.1, F.2 + G.2) G = crs F G := by unfold crs; grind
            show 0 < crs _ G
            omega
        have := H.germ3 h hg ⟨.inl l1, .inl l2, .inl l3⟩ k
        unfold SameT at this
        omega
      · have := side h.rot.rot l3.symm k1 k2
        omega
    · have := side h.rot l2.symm k3 k1
      omega
  · exact side h l1.symm k2 k3
end
end T
/-! nets over heights: where every side is bent upwards, no point lies below a triangle's plane; there is one such net -/
namespace T
/-- a, b, c's plane at x, times the area; and how far d lies below it -/
def Pl (p : Int → Pt) (h : Int → Int) (a b c : Int) (x : Pt) : Int := h a * area (p b) (p c) x + h b * area (p c) (p a) x + h c * area (p a) (p b) x
def Lam (p : Int → Pt) (h : Int → Int) (a b c d : Int) : Int := Pl p h a b c (p d) - h d * area (p a) (p b) (p c)
/-- every side of two is bent upwards -/
def Loc (p : Int → Pt) (h : Int → Int) (N : List Tri) : Prop := ∀ a b c d, Tr N a b c → Tr N b a d → Lam p h a b c d < 0
theorem exists_max {α : Type} (f g : α → Int) : ∀ l : List α, l ≠ [] → (∀ t ∈ l, 0 < g t) → ∃ t ∈ l, ∀ u ∈ l, f u * g t ≤ f t * g u
  | [], h, _ => absurd rfl h
  | [t], _, _ => ⟨t, by simp, fun u hu => by rw [List.mem_singleton.mp hu]; exact Int.le_refl _⟩
  | t :: s :: r, _, hg => by
    obtain ⟨m, hm, hm2⟩ := exists_max f g (s :: r) (by simp) fun u hu => hg u (by simp [hu])
    have gm := hg m (by simp [hm])
    have gt := hg t (by simp)
    by_cases k : f t * g m ≤ f m * g t
    · refine ⟨m, by simp [hm], fun u hu => ?_⟩
      rcases List.mem_cons.mp hu with rfl | hu
      · exact k
      · exact hm2 u hu
    · refine ⟨t, by simp, fun u hu => ?_⟩
      rcases List.mem_cons.mp hu with rfl | hu
      · exact Int.le_refl _
      · have gu := hg u (by simp [hu])
        have h1 := hm2 u hu
        -- f u / g u ≤ f m / g m < f t / g t
        have i1 : f u * g m * g t ≤ f m * g u * g t := Int.mul_le_mul_of_nonneg_right h1 (by omega)
        have i2 : f m * g t * g u ≤ f t * g m * g u := Int.mul_le_mul_of_nonneg_right (by omega) (by omega)
        have i3 : 0 ≤ g m * (f t * g u - f u * g t) := by
          have e1 : g m * (f t * g u - f u * g t) = f t * g m * g u - f u * g m * g t := by grind
          have e2 : f m * g u * g t = f m * g t * g u := by grind
          omega
        have := nonneg_of_mul gm i3
        omega
section
variable {p : Int → Pt} {h : Int → Int} {S : List Int} {N : List Tri} {a b c d e : Int}
theorem pl_rot (x : Pt) : Pl p h b c a x = Pl p h a b c x := by unfold Pl; omega
theorem lam_rot : Lam p h b c a d = Lam p h a b c d := by unfold Lam; rw [pl_rot, area_rot]
theorem pl_id (x : Pt) : Pl p h b a d x * area (p a) (p b) (p c) - Pl p h a b c x * area (p b) (p a) (p d) = Lam p h a b c d * area (p a) (p b) x := by
  have k1 : area (p d) (p b) x * area (p a) (p b) (p c) - area (p b) (p c) x * area (p b) (p a) (p d) = (area (p b) (p c) (p d)) * area (p a) (p b) x := by unfold area; grind
  have k2 : area (p a) (p d) x * area (p a) (p b) (p c) - area (p c) (p a) x * area (p b) (p a) (p d) = (area (p c) (p a) (p d)) * area (p a) (p b) x := by unfold area; grind
  have k3 : area (p b) (p a) x = - area (p a) (p b) x := area_flip _ _ _
  have k4 : area (p b) (p a) (p d) = - area (p a) (p b) (p d) := area_flip _ _ _
  unfold Lam Pl
  generalize area (p d) (p b) x = u1 at *
  generalize area (p a) (p d) x = u2 at *
  generalize area (p b) (p a) x = u3 at *
  generalize area (p b) (p c) x = u4 at *
  generalize area (p c) (p a) x = u5 at *
  generalize area (p a) (p b) x = u6 at *
  generalize area (p a) (p b) (p c) = v1 at *
  generalize area (p b) (p a) (p d) = v2 at *
  generalize area (p b) (p c) (p d) = v3 at *
  generalize area (p c) (p a) (p d) = v4 at *
  generalize area (p a) (p b) (p d) = v5 at *
  subst k3 k4
  have e1 : h a * u1 * v1 - h a * u4 * -v5 = h a * v3 * u6 := by rw [Int.mul_assoc, Int.mul_assoc, ← Int.mul_sub, k1, Int.mul_assoc]
  have e2 : h b * u2 * v1 - h b * u5 * -v5 = h b * v4 * u6 := by rw [Int.mul_assoc, Int.mul_assoc, ← Int.mul_sub, k2, Int.mul_assoc]
  grind
/-- the spot lies on the left of all that runs along the edge -/
def InH (p : Int → Pt) (N : List Tri) (x : Pt) : Prop := ∀ e ∈ stps N, swp e ∉ stps N → 0 ≤ area (p e.1) (p e.2) x
theorem Net.max (H : Net p S N) (ne : N ≠ []) (L : Loc p h N) {x : Pt} (hx : InH p N x) : ∃ a b c, Tr N a b c ∧ (0 ≤ area (p a) (p b) x ∧ 0 ≤ area (p b) (p c) x ∧ 0 ≤ area (p c) (p a) x) ∧
    ∀ d e f, Tr N d e f → Pl p h d e f x * area (p a) (p b) (p c) ≤ Pl p h a b c x * area (p d) (p e) (p f) := by
  obtain ⟨t, ht, hm⟩ := exists_max (fun t : Tri => Pl p h t.a t.b t.c x) (fun t : Tri => area (p t.a) (p t.b) (p t.c)) N ne H.pos
  have all : ∀ d e f, Tr N d e f → Pl p h d e f x * area (p t.a) (p t.b) (p t.c) ≤ Pl p h t.a t.b t.c x * area (p d) (p e) (p f) := fun d e f hd => by
    rcases hd with hd | hd | hd
    · exact hm _ hd
    · have := hm _ hd
      dsimp only at this
      rwa [pl_rot (a := d) (b := e) (c := f), area_rot (p d) (p e) (p f)] at this
    · have := hm _ hd
      dsimp only at this
      rwa [← pl_rot (a := f) (b := d) (c := e), area_rot2 (p d) (p e) (p f)] at this
  have key : ∀ {a b c : Int}, Tr N a b c → (∀ d e f, Tr N d e f → Pl p h d e f x * area (p a) (p b) (p c) ≤ Pl p h a b c x * area (p d) (p e) (p f)) → 0 ≤ area (p a) (p b) x := fun {a b c} h1 hm => by
    by_cases z : 0 ≤ area (p a) (p b) x
    · exact z
    · exfalso
      by_cases hb : (b, a) ∈ stps N
      · obtain ⟨d, hd⟩ := Tr.of_step hb
        have id := pl_id (p := p) (h := h) (a := a) (b := b) (c := c) (d := d) x
        have := Int.mul_pos_of_neg_of_neg (L a b c d h1 hd) (by omega : area (p a) (p b) x < 0)
        have := hm b a d hd
        omega
      · have := hx (a, b) h1.stp.1 hb
        dsimp only at this
        omega
  have t1 : Tr N t.a t.b t.c := Tr.of ht
  refine ⟨t.a, t.b, t.c, t1, ⟨key t1 all, key t1.rot fun d e f hd => ?_, key t1.rot.rot fun d e f hd => ?_⟩, all⟩
  · rw [area_rot (p t.a), pl_rot (a := t.a)]
    exact all d e f hd
  · rw [area_rot2 (p t.a), pl_rot (a := t.b), pl_rot (a := t.a)]
    exact all d e f hd
theorem Net.inH (H : Net p S N) (he : e ∈ S) : InH p N (p e) := fun s h1 h2 => (H.sup s h1 h2 e he).1
theorem pl_a : Pl p h a b c (p a) = h a * area (p a) (p b) (p c) := by unfold Pl; rw [area_rot, area_abb, area_aba]; omega
theorem pl_b : Pl p h a b c (p b) = h b * area (p a) (p b) (p c) := by rw [← pl_rot, pl_a, area_rot]
theorem pl_c : Pl p h a b c (p c) = h c * area (p a) (p b) (p c) := by rw [← pl_rot, ← pl_rot, pl_a, area_rot2]
theorem pl_v (he : e = a ∨ e = b ∨ e = c) : Pl p h a b c (p e) = h e * area (p a) (p b) (p c) := by
  rcases he with rfl | rfl | rfl
  · exact pl_a
  · exact pl_b
  · exact pl_c
/-- no point lies below a triangle's plane -/
theorem Net.emp (H : Net p S N) (L : Loc p h N) (h1 : Tr N a b c) (he : e ∈ S) : Lam p h a b c e ≤ 0 := by
  have ne : N ≠ [] := fun z => by subst z; rcases h1 with h1 | h1 | h1 <;> cases h1
  obtain ⟨d, f, g, ht, ⟨k1, k2, k3⟩, hm⟩ := H.max ne L (H.inH he)
  have P := ht.pos H
  have := hm a b c h1
  rw [pl_v (H.clean ht he k1 k2 k3)] at this
  unfold Lam
  have e1 : h e * area (p d) (p f) (p g) * area (p a) (p b) (p c) = h e * area (p a) (p b) (p c) * area (p d) (p f) (p g) := by grind
  rw [e1] at this
  have := Int.le_of_mul_le_mul_right this P
  omega
theorem pl_aff (a b c : Int) (u v w x : Pt) : Pl p h a b c x * area u v w = area v w x * Pl p h a b c u + area w u x * Pl p h a b c v + area u v x * Pl p h a b c w := by
  have b1 := bary3 u v w (p b) (p c) x
  have b2 := bary3 u v w (p c) (p a) x
  have b3 := bary3 u v w (p a) (p b) x
  unfold Pl
  grind
/-- there is one such net: whose planes no point lies below, those triangles are its own -/
theorem Net.uniq (H : Net p S N) (L : Loc p h N) (nz : ∀ d e f v, Tr N d e f → v ∈ S → v ≠ d → v ≠ e → v ≠ f → Lam p h d e f v ≠ 0) (ha : a ∈ S) (hb : b ∈ S) (hc : c ∈ S) (P : 0 < area (p a) (p b) (p c)) (em : ∀ e ∈ S, Lam p h a b c e ≤ 0) : Tr N a b c := by
  have ne : N ≠ [] := fun z => by
    obtain ⟨e, he, _⟩ := H.all a ha
    rw [z] at he
    cases he
  have H3 := H.sm (k := 3) (by decide)
  let q : Int → Pt := fun i => T.sm 3 (p i)
  have a9 : ∀ i j k, area (q i) (q j) (q k) = 9 * area (p i) (p j) (p k) := fun i j k => by show area (T.sm 3 _) (T.sm 3 _) (T.sm 3 _) = _; rw [area_sm]; rfl
  have l9 : ∀ i j k m, Lam q h i j k m = 9 * Lam p h i j k m := fun i j k m => by
    unfold Lam Pl
    rw [a9, a9, a9, a9]
    grind
  have L3 : Loc q h N := fun i j k m h1 h2 => by rw [l9]; have := L i j k m h1 h2; omega
  let x : Pt := ((p a).1 + (p b).1 + (p c).1, (p a).2 + (p b).2 + (p c).2)
  have x3 : ∀ i j, area (q i) (q j) x = 3 * (area (p i) (p j) (p a) + area (p i) (p j) (p b) + area (p i) (p j) (p c)) := fun i j => by
    show area (T.sm 3 _) (T.sm 3 _) ((p a).1 + (p b).1 + (p c).1, (p a).2 + (p b).2 + (p c).2) = _
    unfold area T.sm
    grind
  have hx : InH q N x := fun e h1 h2 => by
    have s := H.sup e h1 h2
    have s1 := (s a ha).1
    have s2 := (s b hb).1
    have s3 := (s c hc).1
    rw [x3]
    omega
  obtain ⟨d, e, f, ht, ⟨k1, k2, k3⟩, _⟩ := H3.max ne L3 hx
  have Q := ht.pos H
  have iS := ht.inS H
  have hd := fun v (hv : v ∈ S) => H.emp L ht hv
  -- both planes at x
  have A1 := pl_aff (p := q) (h := h) a b c (q d) (q e) (q f) x
  have A2 := pl_aff (p := q) (h := h) d e f (q a) (q b) (q c) x
  have w1 : area (q b) (q c) x = 3 * area (p a) (p b) (p c) := by rw [x3, area_rot, area_aba, area_abb]; omega
  have w2 : area (q c) (q a) x = 3 * area (p a) (p b) (p c) := by rw [x3, area_rot2 (p a) (p b) (p c), area_abb, area_aba]; omega
  have w3 : area (q a) (q b) x = 3 * area (p a) (p b) (p c) := by rw [x3, area_aba, area_abb]; omega
  have em9 : ∀ v ∈ S, Pl q h a b c (q v) ≤ h v * (9 * area (p a) (p b) (p c)) := fun v hv => by
    have := em v hv
    have := l9 a b c v
    unfold Lam at this
    rw [a9] at this
    have e2 : Lam p h a b c v = Pl p h a b c (p v) - h v * area (p a) (p b) (p c) := rfl
    omega
  have hd9 : ∀ v ∈ S, Pl q h d e f (q v) ≤ h v * (9 * area (p d) (p e) (p f)) := fun v hv => by
    have := hd v hv
    have := l9 d e f v
    unfold Lam at this
    rw [a9] at this
    have e2 : Lam p h d e f v = Pl p h d e f (p v) - h v * area (p d) (p e) (p f) := rfl
    omega
  have k1 : 0 ≤ area (q d) (q e) x := k1
  have k2 : 0 ≤ area (q e) (q f) x := k2
  have k3 : 0 ≤ area (q f) (q d) x := k3
  have v1 := Int.mul_le_mul_of_nonneg_left (em9 d iS.1) k2
  have v2 := Int.mul_le_mul_of_nonneg_left (em9 e iS.2.1) k3
  have v3 := Int.mul_le_mul_of_nonneg_left (em9 f iS.2.2) k1
  have B1 : Pl q h a b c x * (9 * area (p d) (p e) (p f)) ≤ Pl q h d e f x * (9 * area (p a) (p b) (p c)) := by
    rw [a9] at A1
    rw [A1]
    have : Pl q h d e f x * (9 * area (p a) (p b) (p c)) = area (q e) (q f) x * (h d * (9 * area (p a) (p b) (p c))) + area (q f) (q d) x * (h e * (9 * area (p a) (p b) (p c))) + area (q d) (q e) x * (h f * (9 * area (p a) (p b) (p c))) := by
      unfold Pl
      grind
    omega
  rw [a9, w1, w2, w3] at A2
  have A3 : Pl q h a b c x = 3 * area (p a) (p b) (p c) * (h a + h b + h c) := by
    unfold Pl
    rw [w1, w2, w3]
    grind
  have u1 := hd9 a ha
  have u2 := hd9 b hb
  have u3 := hd9 c hc
  have B2 : 3 * area (p a) (p b) (p c) * ((Pl q h d e f (q a) - h a * (9 * area (p d) (p e) (p f))) + (Pl q h d e f (q b) - h b * (9 * area (p d) (p e) (p f))) + (Pl q h d e f (q c) - h c * (9 * area (p d) (p e) (p f)))) = Pl q h d e f x * (9 * area (p a) (p b) (p c)) - Pl q h a b c x * (9 * area (p d) (p e) (p f)) := by
    rw [A2, A3]
    grind
  have B3 : 0 ≤ (Pl q h d e f (q a) - h a * (9 * area (p d) (p e) (p f))) + (Pl q h d e f (q b) - h b * (9 * area (p d) (p e) (p f))) + (Pl q h d e f (q c) - h c * (9 * area (p d) (p e) (p f))) :=
    nonneg_of_mul (a := 3 * area (p a) (p b) (p c)) (by omega) (by omega)
  have z : ∀ v ∈ S, Pl q h d e f (q v) = h v * (9 * area (p d) (p e) (p f)) → v = d ∨ v = e ∨ v = f := fun v hv ev => by
    by_cases e1 : v = d
    · exact .inl e1
    · by_cases e2 : v = e
      · exact .inr (.inl e2)
      · by_cases e3 : v = f
        · exact .inr (.inr e3)
        · have := l9 d e f v
          unfold Lam at this
          rw [a9] at this
          exact absurd (by
            have e2 : Lam p h d e f v = Pl p h d e f (p v) - h v * area (p d) (p e) (p f) := rfl
            omega) (nz d e f v ht hv e1 e2 e3)
  have z1 := z a ha (by omega)
  have z2 := z b hb (by omega)
  have z3 := z c hc (by omega)
  have n1 := vne P
  have flip : ∀ {i j k : Int}, 0 < area (p i) (p j) (p k) → 0 < area (p j) (p i) (p k) → False := fun {i j k} h1 h2 => by
    rw [area_flip] at h2
    omega
  rcases z1 with rfl | rfl | rfl <;> rcases z2 with rfl | rfl | rfl <;> rcases z3 with rfl | rfl | rfl <;> first
    | exact ht
    | exact ht.rot
    | exact ht.rot.rot
    | exact absurd rfl n1.1
    | exact absurd rfl n1.2.1
    | exact absurd rfl n1.2.2
    | (exfalso; rw [area_sw] at P; omega)
    | (exfalso; rw [area_flip] at P; omega)
    | (exfalso; rw [area_rot2, area_sw] at P; omega)
    | (exfalso; rw [area_rot, area_flip] at P; omega)
    | (exfalso; rw [area_flip, area_rot] at P; omega)
    | (exfalso; rw [area_flip, area_rot2] at P; omega)
end
end T
/-! the heights: the square of the distance, the lesser numbers lowered more; rings and least numbers by them -/
namespace T
def nrm (a : Pt) : Int := a.1 * a.1 + a.2 * a.2
theorem rings_lift (a b c d : Pt) : rings a b c d = nrm a * area b c d + nrm b * area c a d + nrm c * area a b d - nrm d * area a b c := by
  unfold rings far nrm area; grind
theorem rings_col (a b c d : Pt) : rings a b c d + dotp b c d * area a b c = area b c d * (nrm (vec d a) - dotp a b d - dotp a c d + dotp b c d) := by
  unfold rings far nrm area dotp vec; grind
theorem sq_nn (x : Int) : 0 ≤ x * x := by
  rcases Int.le_total 0 x with w | w
  · exact mul_nn w w
  · have := mul_nn (show 0 ≤ -x by omega) (show 0 ≤ -x by omega)
    rw [Int.neg_mul_neg] at this
    exact this
theorem far_pos {a b : Pt} (h : a ≠ b) : 0 < far a b := by
  have s1 := sq_nn (a.1 - b.1)
  have s2 := sq_nn (a.2 - b.2)
  rcases Int.lt_or_eq_of_le (Int.add_nonneg s1 s2) with w | w
  · exact w
  · exfalso
    have t1 : a.1 - b.1 = 0 := by rcases Int.mul_eq_zero.mp (show (a.1 - b.1) * (a.1 - b.1) = 0 by omega) with w | w <;> exact w
    have t2 : a.2 - b.2 = 0 := by rcases Int.mul_eq_zero.mp (show (a.2 - b.2) * (a.2 - b.2) = 0 by omega) with w | w <;> exact w
    exact h (Prod.ext (by omega) (by omega))
theorem far_nn (a b : Pt) : 0 ≤ far a b := by
  have s1 := sq_nn (a.1 - b.1)
  have s2 := sq_nn (a.2 - b.2)
  unfold far
  omega
/-- on a ring no three lie in a row -/
theorem ring_row {a b c d : Pt} (h : rings a b c d = 0) (P : area a b c ≠ 0) (n1 : d ≠ b) (n2 : d ≠ c) : area b c d ≠ 0 := fun z => by
  have e := rings_col a b c d
  rw [h, z, Int.zero_mul, Int.zero_add] at e
  have e0 : dotp b c d = 0 := by
    rcases Int.mul_eq_zero.mp e with w | w
    · exact w
    · exact absurd w P
  -- b - d and c - d along one line and upright on each other
  have f1 := far_pos n1
  have f2 := far_pos n2
  have : far d b * far d c = dotp b c d * dotp b c d + area b c d * area b c d := by unfold far dotp area; grind
  rw [e0, z] at this
  have := mul_pos' f1 f2
  omega
/-- who lies amid others lies within their ring -/
theorem cvx {x1 x2 x3 y : Pt} {w1 w2 w3 : Int} (h1 : w1 * x1.1 + w2 * x2.1 + w3 * x3.1 = (w1 + w2 + w3) * y.1) (h2 : w1 * x1.2 + w2 * x2.2 + w3 * x3.2 = (w1 + w2 + w3) * y.2) :
    (w1 + w2 + w3) * ((w1 + w2 + w3) * nrm y - (w1 * nrm x1 + w2 * nrm x2 + w3 * nrm x3)) = -(w1 * w2 * far x1 x2 + w1 * w3 * far x1 x3 + w2 * w3 * far x2 x3) := by
  have e1 : (w1 + w2 + w3) * ((w1 + w2 + w3) * nrm y) = ((w1 + w2 + w3) * y.1) * ((w1 + w2 + w3) * y.1) + ((w1 + w2 + w3) * y.2) * ((w1 + w2 + w3) * y.2) := by unfold nrm; grind
  rw [Int.mul_sub, e1, ← h1, ← h2]
  unfold nrm far
  grind
theorem conv_b {a b c d : Pt} (P : 0 < area a b c) (Q : 0 < area b a d) (R : 0 ≤ rings a b c d) : 0 < area d b c := by
  by_cases X : 0 < area d b c
  · exact X
  · exfalso
    have cd : c ≠ d := fun z => by rw [z] at P; rw [area_flip] at Q; omega
    have wa : 0 ≤ area d c b := by rw [area_sw]; omega
    have wc : 0 < area a d b := by rw [area_rot]; exact Q
    have wd : 0 < area c a b := by rw [area_rot2]; exact P
    have W := area_sum d c a b
    have b1 : area d c b * a.1 + area a d b * c.1 + area c a b * d.1 = (area d c b + area a d b + area c a b) * b.1 := by unfold area; grind
    have b2 : area d c b * a.2 + area a d b * c.2 + area c a b * d.2 = (area d c b + area a d b + area c a b) * b.2 := by unfold area; grind
    have k := cvx b1 b2
    have r : rings a b c d = (area d c b + area a d b + area c a b) * nrm b - (area d c b * nrm a + area a d b * nrm c + area c a b * nrm d) := by
      rw [rings_lift]
      unfold area
      grind
    rw [← r] at k
    have m0 := mul_nn (show 0 ≤ area d c b + area a d b + area c a b by omega) R
    have m1 := mul_nn (mul_nn wa (Int.le_of_lt wc)) (far_nn a c)
    have m2 := mul_nn (mul_nn wa (Int.le_of_lt wd)) (far_nn a d)
    have m3 := mul_pos' (mul_pos' wc wd) (far_pos cd)
    omega
theorem rings_sw (a b c d : Pt) : rings b a d c = rings a b c d := by unfold rings far area; grind
theorem conv_a {a b c d : Pt} (P : 0 < area a b c) (Q : 0 < area b a d) (R : 0 ≤ rings a b c d) : 0 < area a d c := by
  have := conv_b (a := b) (b := a) (c := d) (d := c) Q P (by rw [rings_sw]; exact R)
  rw [area_rot]
  exact this
/-! ### heights -/
def eps (i : Int) : Int := 2 ^ (100 * (64 - i.toNat))
def big : Int := 2 ^ 6600
def hgt (p : Int → Pt) (i : Int) : Int := big * nrm (p i) - eps i
def Eps (p : Int → Pt) (a b c d : Int) : Int := eps a * area (p b) (p c) (p d) + eps b * area (p c) (p a) (p d) + eps c * area (p a) (p b) (p d) - eps d * area (p a) (p b) (p c)
theorem lam_eq (p : Int → Pt) (a b c d : Int) : Lam p (hgt p) a b c d = big * rings (p a) (p b) (p c) (p d) - Eps p a b c d := by
  unfold Lam Pl hgt Eps
  rw [rings_lift]
  generalize big = L
  grind
theorem eps_pos (i : Int) : 0 < eps i := Int.pow_pos (by decide)
theorem eps_le {i j : Int} (h0 : 0 ≤ i) (hij : i < j) (hj : j ≤ 60) : 2 ^ 90 * eps j ≤ eps i := by
  unfold eps
  have e : 100 * (64 - i.toNat) = 100 * (64 - i.toNat) - 100 * (64 - j.toNat) - 90 + 90 + 100 * (64 - j.toNat) := by omega
  rw [e, Int.pow_add, Int.pow_add]
  refine Int.mul_le_mul_of_nonneg_right ?_ (Int.le_of_lt (Int.pow_pos (by decide)))
  have : (1 : Int) ≤ 2 ^ (100 * (64 - i.toNat) - 100 * (64 - j.toNat) - 90) := by
    have := Int.pow_pos (n := 2) (m := 100 * (64 - i.toNat) - 100 * (64 - j.toNat) - 90) (by decide)
    omega
  have := Int.mul_le_mul_of_nonneg_right this (show (0 : Int) ≤ 2 ^ 90 by decide)
  omega
theorem eps_big (i : Int) : 2 ^ 90 * eps i ≤ big := by
  unfold eps big
  have e : 6600 = 6600 - 100 * (64 - i.toNat) - 90 + 90 + 100 * (64 - i.toNat) := by omega
  rw [e, Int.pow_add, Int.pow_add]
  refine Int.mul_le_mul_of_nonneg_right ?_ (Int.le_of_lt (Int.pow_pos (by decide)))
  have : (1 : Int) ≤ 2 ^ (6600 - 100 * (64 - i.toNat) - 90) := by
    have := Int.pow_pos (n := 2) (m := 6600 - 100 * (64 - i.toNat) - 90) (by decide)
    omega
  have := Int.mul_le_mul_of_nonneg_right this (show (0 : Int) ≤ 2 ^ 90 by decide)
  omega
/-- short enough -/
def sh (x : Int) : Prop := -(2 ^ 84) < x ∧ x < 2 ^ 84
theorem sh_area {a b c : Pt} (ha : pb a) (hb : pb b) (hc : pb c) : sh (area a b c) := by
  have := bd_area ha hb hc
  unfold bd at this
  have : (area a b c).natAbs < 2 ^ 83 := this
  unfold sh
  omega
theorem sh_mul {e x : Int} (he : 0 < e) (h : sh x) : -(2 ^ 84 * e) ≤ e * x ∧ e * x ≤ 2 ^ 84 * e := by
  unfold sh at h
  have h1 : e * x ≤ e * 2 ^ 84 := Int.mul_le_mul_of_nonneg_left (by omega) (by omega)
  have h2 : e * (-(2 ^ 84)) ≤ e * x := Int.mul_le_mul_of_nonneg_left (by omega) (by omega)
  omega
/-- the greatest of four decides -/
theorem dom {e e1 e2 e3 x x1 x2 x3 : Int} (h0 : 0 < e) (p1 : 0 < e1) (p2 : 0 < e2) (p3 : 0 < e3) (h1 : 2 ^ 90 * e1 ≤ e) (h2 : 2 ^ 90 * e2 ≤ e) (h3 : 2 ^ 90 * e3 ≤ e) (s1 : sh x1) (s2 : sh x2) (s3 : sh x3) : (0 < x → 0 < e * x + e1 * x1 + e2 * x2 + e3 * x3) ∧ (x < 0 → e * x + e1 * x1 + e2 * x2 + e3 * x3 < 0) := by
  have a1 := sh_mul p1 s1
  have a2 := sh_mul p2 s2
  have a3 := sh_mul p3 s3
  refine ⟨fun k => ?_, fun k => ?_⟩
  · have : e * 1 ≤ e * x := Int.mul_le_mul_of_nonneg_left (by omega) (by omega)
    omega
  · have : e * x ≤ e * (-1) := Int.mul_le_mul_of_nonneg_left (by omega) (by omega)
    omega
section
variable {p : Int → Pt} {a b c d : Int}
theorem eps_sh (ha : pb (p a)) (hb : pb (p b)) (hc : pb (p c)) (hd : pb (p d)) : -big < Eps p a b c d ∧ Eps p a b c d < big := by
  have s1 := sh_mul (eps_pos a) (sh_area hb hc hd)
  have s2 := sh_mul (eps_pos b) (sh_area hc ha hd)
  have s3 := sh_mul (eps_pos c) (sh_area ha hb hd)
  have s4 := sh_mul (eps_pos d) (sh_area ha hb hc)
  have b1 := eps_big a
  have b2 := eps_big b
  have b3 := eps_big c
  have b4 := eps_big d
  have q1 := eps_pos a
  have q2 := eps_pos b
  have q3 := eps_pos c
  have q4 := eps_pos d
  unfold Eps
  omega
/-- where d doesn't lie on the ring, the ring decides -/
theorem lam_ring (ha : pb (p a)) (hb : pb (p b)) (hc : pb (p c)) (hd : pb (p d)) : (0 < rings (p a) (p b) (p c) (p d) → 0 < Lam p (hgt p) a b c d) ∧ (rings (p a) (p b) (p c) (p d) < 0 → Lam p (hgt p) a b c d < 0) := by
  have s := eps_sh (p := p) ha hb hc hd
  have L0 : 0 < big := Int.pow_pos (by decide)
  rw [lam_eq]
  refine ⟨fun k => ?_, fun k => ?_⟩
  · have : big * 1 ≤ big * rings (p a) (p b) (p c) (p d) := Int.mul_le_mul_of_nonneg_left (by omega) (by omega)
    omega
  · have : big * rings (p a) (p b) (p c) (p d) ≤ big * (-1) := Int.mul_le_mul_of_nonneg_left (by omega) (by omega)
    omega
def nb (i : Int) : Prop := 0 ≤ i ∧ i ≤ 60
/-- on the ring the least number decides -/
theorem eps_a (ha : pb (p a)) (hb : pb (p b)) (hc : pb (p c)) (hd : pb (p d)) (na : nb a) (n2 : nb b) (n3 : nb c) (n4 : nb d) (h1 : a < b) (h2 : a < c) (h3 : a < d) : (0 < area (p b) (p c) (p d) → 0 < Eps p a b c d) ∧ (area (p b) (p c) (p d) < 0 → Eps p a b c d < 0) := by
  have D := dom (e := eps a) (e1 := eps b) (e2 := eps c) (e3 := eps d) (x := area (p b) (p c) (p d)) (x1 := area (p c) (p a) (p d)) (x2 := area (p a) (p b) (p d)) (x3 := - area (p a) (p b) (p c)) (eps_pos _) (eps_pos _) (eps_pos _) (eps_pos _) (eps_le na.1 h1 n2.2) (eps_le na.1 h2 n3.2) (eps_le na.1 h3 n4.2) (sh_area hc ha hd) (sh_area ha hb hd) (by have := sh_area ha hb hc; unfold sh at *; omega)
  unfold Eps
  rw [Int.mul_neg] at D
  exact ⟨fun k => by have := D.1 k; omega, fun k => by have := D.2 k; omega⟩
theorem eps_rot : Eps p b c a d = Eps p a b c d := by unfold Eps; rw [area_rot (p a) (p b) (p c)]; omega
theorem eps_d (ha : pb (p a)) (hb : pb (p b)) (hc : pb (p c)) (hd : pb (p d)) (na : nb a) (n2 : nb b) (n3 : nb c) (n4 : nb d) (h1 : d < a) (h2 : d < b) (h3 : d < c) : (0 < area (p a) (p b) (p c) → Eps p a b c d < 0) ∧ (area (p a) (p b) (p c) < 0 → 0 < Eps p a b c d) := by
  have D := dom (e := eps d) (e1 := eps a) (e2 := eps b) (e3 := eps c) (x := - area (p a) (p b) (p c)) (x1 := area (p b) (p c) (p d)) (x2 := area (p c) (p a) (p d)) (x3 := area (p a) (p b) (p d)) (eps_pos _) (eps_pos _) (eps_pos _) (eps_pos _) (eps_le n4.1 h1 na.2) (eps_le n4.1 h2 n2.2) (eps_le n4.1 h3 n3.2) (sh_area hb hc hd) (sh_area hc ha hd) (sh_area ha hb hd)
  unfold Eps
  rw [Int.mul_neg] at D
  exact ⟨fun k => by have := D.2 (by omega); omega, fun k => by have := D.1 (by omega); omega⟩
theorem lam_nz (ha : pb (p a)) (hb : pb (p b)) (hc : pb (p c)) (hd : pb (p d)) (na : nb a) (n2 : nb b) (n3 : nb c) (n4 : nb d) (P : 0 < area (p a) (p b) (p c)) (d1 : d ≠ a) (d2 : d ≠ b) (d3 : d ≠ c) (e1 : p d ≠ p a) (e2 : p d ≠ p b) (e3 : p d ≠ p c) : Lam p (hgt p) a b c d ≠ 0 := by
  have R := lam_ring (p := p) ha hb hc hd
  rcases Int.lt_trichotomy (rings (p a) (p b) (p c) (p d)) 0 with k | k | k
  · have := R.2 k; omega
  · rw [lam_eq, k, Int.mul_zero]
    have n := vne P
    have z1 := ring_row k (by omega) e2 e3
    have z2 := ring_row (a := p b) (b := p c) (c := p a) (d := p d) (by rw [rings_rot]; exact k) (by rw [area_rot]; omega) e3 e1
    have z3 := ring_row (a := p c) (b := p a) (c := p b) (d := p d) (by rw [rings_rot, rings_rot]; exact k) (by rw [area_rot2]; omega) e1 e2
    by_cases l4 : d < a ∧ d < b ∧ d < c
    · have := (eps_d ha hb hc hd na n2 n3 n4 l4.1 l4.2.1 l4.2.2).1 P
      omega
    · by_cases l1 : a < b ∧ a < c ∧ a < d
      · have := eps_a ha hb hc hd na n2 n3 n4 l1.1 l1.2.1 l1.2.2
        rcases Int.lt_or_gt_of_ne z1 with w | w
        · have := this.2 w; omega
        · have := this.1 w; omega
      · by_cases l2 : b < c ∧ b < a ∧ b < d
        · have := eps_a hb hc ha hd n2 n3 na n4 l2.1 l2.2.1 l2.2.2
          rw [eps_rot] at this
          rcases Int.lt_or_gt_of_ne z2 with w | w
          · have := this.2 w; omega
          · have := this.1 w; omega
        · have l3 : c < a ∧ c < b ∧ c < d := by omega
          have := eps_a hc ha hb hd n3 na n2 n4 l3.1 l3.2.1 l3.2.2
          rw [eps_rot, eps_rot] at this
          rcases Int.lt_or_gt_of_ne z3 with w | w
          · have := this.2 w; omega
          · have := this.1 w; omega
  · have := R.1 k; omega
/-- a side of two is wrong just where it is bent downwards -/
theorem lam_wrong (ha : pb (p a)) (hb : pb (p b)) (hc : pb (p c)) (hd : pb (p d)) (na : nb a) (n2 : nb b) (n3 : nb c) (n4 : nb d) (P : 0 < area (p a) (p b) (p c)) (Q : 0 < area (p b) (p a) (p d)) :
    (0 < rings (p a) (p b) (p c) (p d) ∨ rings (p a) (p b) (p c) (p d) = 0 ∧ min c d < min a b → 0 < Lam p (hgt p) a b c d) ∧ (¬ (0 < rings (p a) (p b) (p c) (p d) ∨ rings (p a) (p b) (p c) (p d) = 0 ∧ min c d < min a b) → Lam p (hgt p) a b c d < 0) := by
  have R := lam_ring (p := p) ha hb hc hd
  have n := vne P
  have m := vne Q
  have cd : c ≠ d := fun z => by rw [z] at P; rw [area_flip] at Q; omega
  rcases Int.lt_trichotomy (rings (p a) (p b) (p c) (p d)) 0 with k | k | k
  · exact ⟨fun z => by omega, fun _ => R.2 k⟩
  · have X := conv_b P Q (by omega)
    have Y := conv_a P Q (by omega)
    rw [lam_eq, k, Int.mul_zero]
    by_cases l4 : d < a ∧ d < b ∧ d < c
    · have := (eps_d ha hb hc hd na n2 n3 n4 l4.1 l4.2.1 l4.2.2).1 P
      exact ⟨fun _ => by omega, fun z => absurd (.inr ⟨rfl, by omega⟩) z⟩
    · by_cases l1 : a < b ∧ a < c ∧ a < d
      · have := (eps_a ha hb hc hd na n2 n3 n4 l1.1 l1.2.1 l1.2.2).1 (by rw [area_rot]; exact X)
        exact ⟨fun z => by omega, fun _ => by omega⟩
      · by_cases l2 : b < c ∧ b < a ∧ b < d
        · have := (eps_a hb hc ha hd n2 n3 na n4 l2.1 l2.2.1 l2.2.2).1 (by rw [area_rot2]; exact Y)
          rw [eps_rot] at this
          exact ⟨fun z => by omega, fun _ => by omega⟩
        · have l3 : c < a ∧ c < b ∧ c < d := by omega
          have := (eps_a hc ha hb hd n3 na n2 n4 l3.1 l3.2.1 l3.2.2).2 (by rw [area_flip]; omega)
          rw [eps_rot, eps_rot] at this
          exact ⟨fun _ => by omega, fun z => absurd (.inr ⟨rfl, by omega⟩) z⟩
  · exact ⟨fun _ => R.1 k, fun z => absurd (.inl k) z⟩
/-- what is told of an empty ring -/
theorem lam_emp (ha : pb (p a)) (hb : pb (p b)) (hc : pb (p c)) (hd : pb (p d)) (na : nb a) (n2 : nb b) (n3 : nb c) (n4 : nb d) (P : 0 < area (p a) (p b) (p c)) (E : Lam p (hgt p) a b c d ≤ 0) : rings (p a) (p b) (p c) (p d) ≤ 0 ∧ (rings (p a) (p b) (p c) (p d) = 0 → ¬ (d < a ∧ d < b ∧ d < c)) := by
  have R := lam_ring (p := p) ha hb hc hd
  refine ⟨?_, fun k l4 => ?_⟩
  · by_cases z : 0 < rings (p a) (p b) (p c) (p d)
    · have := R.1 z; omega
    · omega
  · rw [lam_eq, k, Int.mul_zero] at E
    have := (eps_d ha hb hc hd na n2 n3 n4 l4.1 l4.2.1 l4.2.2).1 P
    omega
end
end T
/-! nets' edges: whatever runs along the hull is one of its own steps; the edges of triangles are none of these or all -/
namespace T
/-! ### sides along the hull -/
def lin (a : Pt) : Pt := (a.1, 1125899906842624 * a.1 + a.2)
theorem area_lin (a b c : Pt) : area (lin a) (lin b) (lin c) = area a b c := by unfold area lin; grind
theorem lin_inj {a b : Pt} (h : lin a = lin b) : a = b := by
  unfold lin at h
  have h1 := congrArg Prod.fst h
  have h2 := congrArg Prod.snd h
  dsimp only at h1 h2
  exact Prod.ext h1 (by omega)
theorem pb_lt {a : Pt} (h : pb a) : (-1099511627776 < a.1 ∧ a.1 < 1099511627776) ∧ -1099511627776 < a.2 ∧ a.2 < 1099511627776 := by
  obtain ⟨h1, h2⟩ := h
  unfold bd at h1 h2
  have h1 : a.1.natAbs < 1099511627776 := h1
  have h2 : a.2.natAbs < 1099511627776 := h2
  omega
theorem lx_lin {a b : Pt} (ha : pb a) (hb : pb b) : lx a b ↔ (lin a).2 < (lin b).2 := by
  have h1 := pb_lt ha
  have h2 := pb_lt hb
  unfold lx lin
  dsimp only
  omega
theorem sq0 (x : Int) : 0 ≤ x * x := by
  rcases Int.le_total 0 x with w | w
  · exact mul_nn w w
  · have := mul_nn (show 0 ≤ -x by omega) (show 0 ≤ -x by omega)
    rw [Int.neg_mul_neg] at this
    exact this
theorem Lft.lin {a b x : Pt} (h : Lft a b x) : Lft (lin a) (lin b) (lin x) := by
  refine ⟨by rw [area_lin]; exact h.1, fun z => ?_⟩
  rw [area_lin] at z
  have d := h.2 z
  have e : area a b x = crs (vec x a) (vec x b) := by unfold area crs vec; grind
  rw [e] at z
  have d' : 0 ≤ (vec x a).1 * (vec x b).1 + (vec x a).2 * (vec x b).2 := d
  have g : dotp (T.lin a) (T.lin b) (T.lin x) = (vec x a).1 * (vec x b).1 + (1125899906842624 * (vec x a).1 + (vec x a).2) * (1125899906842624 * (vec x b).1 + (vec x b).2) := by unfold dotp T.lin vec; grind
  rw [g]
  generalize vec x a = u at *
  generalize vec x b = w at *
  unfold crs at z
  by_cases hu : u.1 = 0 ∧ u.2 = 0
  · rw [hu.1, hu.2]; simp
  · have p : 0 < u.1 * u.1 + u.2 * u.2 := by
      have s1 := sq0 u.1
      have s2 := sq0 u.2
      rcases Int.lt_or_eq_of_le (Int.add_nonneg s1 s2) with k | k
      · exact k
      · exfalso
        have t1 : u.1 = 0 := by rcases Int.mul_eq_zero.mp (show u.1 * u.1 = 0 by omega) with w | w <;> exact w
        have t2 : u.2 = 0 := by rcases Int.mul_eq_zero.mp (show u.2 * u.2 = 0 by omega) with w | w <;> exact w
        exact hu ⟨t1, t2⟩
    refine nonneg_of_mul p ?_
    have z' : u.1 * w.2 = u.2 * w.1 := by omega
    have k1 : (u.1 * u.1 + u.2 * u.2) * w.1 = (u.1 * w.1 + u.2 * w.2) * u.1 := by grind
    have k2 : (u.1 * u.1 + u.2 * u.2) * w.2 = (u.1 * w.1 + u.2 * w.2) * u.2 := by grind
    have f : (u.1 * u.1 + u.2 * u.2) * (u.1 * w.1 + (1125899906842624 * u.1 + u.2) * (1125899906842624 * w.1 + w.2)) = (u.1 * w.1 + u.2 * w.2) * (u.1 * u.1 + (1125899906842624 * u.1 + u.2) * (1125899906842624 * u.1 + u.2)) := by grind
    rw [f]
    exact mul_nn d' (Int.add_nonneg (sq0 _) (sq0 _))
/-- two sides to the right over one place are one -/
theorem lx_same {a b c d x : Pt} (pa : pb a) (pb' : pb b) (pc : pb c) (pd : pb d) (px : pb x) (h1 : Lft a b c) (h2 : Lft a b d) (h3 : Lft c d a) (h4 : Lft c d b) (ua : ¬ lx x a) (ub : lx x b) (uc : ¬ lx x c) (ud : lx x d) : a = c ∧ b = d := by
  rw [lx_lin px pa] at ua
  rw [lx_lin px pb'] at ub
  rw [lx_lin px pc] at uc
  rw [lx_lin px pd] at ud
  have := up_same h1.lin h2.lin h3.lin h4.lin (x := lin x) (by omega) ub (by omega) ud
  exact ⟨lin_inj this.1, lin_inj this.2⟩
def ng (a : Pt) : Pt := (-a.1, -a.2)
theorem area_ng (a b c : Pt) : area (ng a) (ng b) (ng c) = area a b c := by unfold area ng; grind
theorem dotp_ng (a b c : Pt) : dotp (ng a) (ng b) (ng c) = dotp a b c := by unfold dotp ng; grind
theorem Lft.ng {a b x : Pt} (h : Lft a b x) : Lft (ng a) (ng b) (ng x) := by
  unfold Lft
  rw [area_ng, dotp_ng]
  exact h
theorem lx_ng {a b : Pt} : lx (ng a) (ng b) ↔ lx b a := by unfold lx ng; dsimp only; omega
theorem pb_ng {a : Pt} (h : pb a) : pb (ng a) := by
  unfold pb bd ng at *
  dsimp only
  omega
theorem ng_inj {a b : Pt} (h : ng a = ng b) : a = b := by
  unfold ng at h
  have h1 := congrArg Prod.fst h
  have h2 := congrArg Prod.snd h
  dsimp only at h1 h2
  exact Prod.ext (by omega) (by omega)
/-- where a place stands in a chain -/
theorem chain_at {p : Int → Pt} {x : Pt} : ∀ (C : List Int) (l r : Int), C.head? = some l → C.getLast? = some r → ¬ lx x (p l) → lx x (p r) → ∃ e ∈ prs C, ¬ lx x (p e.1) ∧ lx x (p e.2)
  | [a], l, r, h1, h2, k1, k2 => by
    simp at h1 h2
    rw [← h1] at k1
    rw [← h2] at k2
    exact absurd k2 k1
  | a :: b :: t, l, r, h1, h2, k1, k2 => by
    simp at h1
    subst h1
    by_cases k : lx x (p b)
    · exact ⟨(a, b), by rw [prs_cons]; simp, k1, k⟩
    · obtain ⟨e, he, h⟩ := chain_at (b :: t) b r rfl (by rw [List.getLast?_cons_cons] at h2; exact h2) k k2
      exact ⟨e, by rw [prs_cons]; exact List.mem_cons_of_mem _ he, h⟩
section
variable {p : Int → Pt} {D : List Int}
def Edge (p : Int → Pt) (S : List Int) (a b : Int) : Prop := ∀ x ∈ S, Lft (p a) (p b) (p x)
theorem cyc_split (U Lo : List Int) (l r : Int) : cyc (l :: Lo ++ r :: U) = prs (l :: Lo ++ [r]) ++ prs (r :: U ++ [l]) := by
  show prs (l :: Lo ++ r :: U ++ [l]) = _
  rw [show l :: Lo ++ r :: U ++ [l] = (l :: Lo) ++ r :: (U ++ [l]) by simp, prs_app]
  rfl
theorem side_edge {F : List Int} {a b : Int} (h : Side p D F a b) : Edge p D a b := fun x hx => ⟨(h.2 x hx).1, fun z => ((h.2 x hx).2 z).2⟩
/-- what runs along the hull is one of its sides -/
theorem edge_cyc {U Lo : List Int} {l r a b : Int} (H : Hull p (fun x => x ∈ D) U Lo l r) (hp : ∀ x ∈ D, pb (p x)) (inj : ∀ x ∈ D, ∀ y ∈ D, p x = p y → x = y) (ha : a ∈ D) (hb : b ∈ D) (ne : a ≠ b) (E : Edge p D a b) : (a, b) ∈ cyc (l :: Lo ++ r :: U) := by
  have sides := hull_sides H
  rw [cyc_split] at sides ⊢
  have nab : p a ≠ p b := fun z => ne (inj a ha b hb z)
  have go : ∀ {e : Int × Int}, e.1 ∈ D → e.2 ∈ D → Edge p D e.1 e.2 → (p a = p e.1 ∧ p b = p e.2) → (a, b) = e := fun {e} h1 h2 _ h => Prod.ext (inj a ha _ h1 h.1) (inj b hb _ h2 h.2)
  by_cases k : lx (p a) (p b)
  · -- to the right: below
    have hd : (l :: Lo ++ [r]).head? = some l := rfl
    have hl : (l :: Lo ++ [r]).getLast? = some r := List.getLast?_concat ..
    have rr : lx (p a) (p r) := by
      have := H.low.hi b hb r (l :: Lo) rfl
      by_cases z : lx (p b) (p r)
      · exact lx_trans k z
      · have := lx_total z this
        rw [← this]; exact k
    obtain ⟨e, he, k1, k2⟩ := chain_at (l :: Lo ++ [r]) l r hd hl (H.low.lo a ha l (Lo ++ [r]) rfl) rr
    have es := side_edge (sides e (List.mem_append.mpr (.inl he)))
    have ei := prs_in he
    have i1 : e.1 ∈ D := H.low.inS _ ei.1
    have i2 : e.2 ∈ D := H.low.inS _ ei.2
    have := lx_same (x := p a) (hp a ha) (hp b hb) (hp _ i1) (hp _ i2) (hp a ha) (E _ i1) (E _ i2) (es _ ha) (es _ hb) (lx_irrefl _) k k1 k2
    rw [go i1 i2 es this]
    exact List.mem_append.mpr (.inl he)
  · have k' : lx (p b) (p a) := by
      by_cases z : lx (p b) (p a)
      · exact z
      · exact absurd (lx_total k z) nab
    -- to the left: above
    have hd : (r :: U ++ [l]).head? = some r := rfl
    have hl : (r :: U ++ [l]).getLast? = some l := List.getLast?_concat ..
    have ll : lx (p l) (p a) := by
      have := H.low.lo b hb l (Lo ++ [r]) rfl
      by_cases z : lx (p l) (p b)
      · exact lx_trans z k'
      · have := lx_total this z
        rw [← this]; exact k'
    obtain ⟨e, he, k1, k2⟩ := chain_at (p := fun i => ng (p i)) (x := ng (p a)) (r :: U ++ [l]) r l hd hl (by rw [lx_ng]; exact H.upp.hi a ha r (l :: U.reverse) rfl) (by rw [lx_ng]; exact ll)
    have es := side_edge (sides e (List.mem_append.mpr (.inr he)))
    have ei := prs_in he
    have mem : ∀ x, x ∈ r :: U ++ [l] → x ∈ D := fun x hx => H.upp.inS x (by
      simp only [List.cons_append, List.mem_cons, List.mem_append, List.not_mem_nil, or_false, List.mem_reverse] at hx ⊢
      rcases hx with h | h | h
      · exact .inr (.inr h)
      · exact .inr (.inl h)
      · exact .inl h)
    have i1 : e.1 ∈ D := mem _ ei.1
    have i2 : e.2 ∈ D := mem _ ei.2
    have := lx_same (x := ng (p a)) (pb_ng (hp a ha)) (pb_ng (hp b hb)) (pb_ng (hp _ i1)) (pb_ng (hp _ i2)) (pb_ng (hp a ha)) (E _ i1).ng (E _ i2).ng (es _ ha).ng (es _ hb).ng (lx_irrefl _) (by rw [lx_ng]; exact k') k1 k2
    rw [go i1 i2 es ⟨ng_inj this.1, ng_inj this.2⟩]
    exact List.mem_append.mpr (.inr he)
end
/-! ### the steps without their reverse -/
theorem sub_len {α : Type} [DecidableEq α] : ∀ {l m : List α}, l.Nodup → (∀ x ∈ l, x ∈ m) → l.length ≤ m.length
  | [], _, _, _ => Nat.zero_le _
  | a :: r, m, nd, h => by
    have n := List.nodup_cons.mp nd
    have := sub_len (l := r) (m := m.erase a) n.2 fun x hx => (List.mem_erase_of_ne (fun z => by rw [z] at hx; exact n.1 hx)).mpr (h x (by simp [hx]))
    have ha := h a (by simp)
    rw [List.length_erase_of_mem ha] at this
    have := List.length_pos_of_mem ha
    simp only [List.length_cons]
    omega
/-- a list within another that is no longer holds all of it -/
theorem sub_all {α : Type} [DecidableEq α] {l m : List α} (nd : l.Nodup) (h : ∀ x ∈ l, x ∈ m) (hl : m.length ≤ l.length) : ∀ x ∈ m, x ∈ l := fun x hx => by
  by_cases k : x ∈ l
  · exact k
  · exfalso
    have := sub_len (l := x :: l) (m := m) (List.nodup_cons.mpr ⟨k, nd⟩) fun y hy => by
      rcases List.mem_cons.mp hy with rfl | hy
      · exact hx
      · exact h y hy
    simp only [List.length_cons] at this
    omega
/-- as many steps lead to a number as from it -/
theorem deg_eq (v : Int) : ∀ N : List Tri, ((stps N).filter fun e => decide (e.2 = v)).length = ((stps N).filter fun e => decide (e.1 = v)).length
  | [] => rfl
  | t :: r => by
    rw [stps_cons, List.filter_append, List.filter_append, List.length_append, List.length_append, deg_eq v r]
    congr 1
    unfold stp
    simp only [List.filter_cons, List.filter_nil]
    by_cases h1 : t.a = v <;> by_cases h2 : t.b = v <;> by_cases h3 : t.c = v <;> simp [h1, h2, h3]
def Bnd (N : List Tri) (e : Int × Int) : Prop := e ∈ stps N ∧ swp e ∉ stps N
/-- an edge leads on to another -/
theorem bnd_next {N : List Tri} (nd : (stps N).Nodup) {u v : Int} (h : Bnd N (u, v)) : ∃ w, Bnd N (v, w) := by
  by_cases k : ∃ w, Bnd N (v, w)
  · exact k
  · exfalso
    have I := ((stps N).filter fun e => decide (e.2 = v)).map Prod.fst
    have hO : ∀ w, (v, w) ∈ stps N → (w, v) ∈ stps N := fun w hw => by
      by_cases z : (w, v) ∈ stps N
      · exact z
      · exact absurd ⟨w, hw, z⟩ k
    have mI : ∀ x, x ∈ ((stps N).filter fun e => decide (e.2 = v)).map Prod.fst ↔ (x, v) ∈ stps N := fun x => by
      rw [List.mem_map]
      constructor
      · rintro ⟨e, he, rfl⟩
        rw [List.mem_filter, decide_eq_true_eq] at he
        rw [← he.2]
        exact he.1
      · exact fun hx => ⟨(x, v), List.mem_filter.mpr ⟨hx, decide_eq_true rfl⟩, rfl⟩
    have mO : ∀ x, x ∈ ((stps N).filter fun e => decide (e.1 = v)).map Prod.snd ↔ (v, x) ∈ stps N := fun x => by
      rw [List.mem_map]
      constructor
      · rintro ⟨e, he, rfl⟩
        rw [List.mem_filter, decide_eq_true_eq] at he
        rw [← he.2]
        exact he.1
      · exact fun hx => ⟨(v, x), List.mem_filter.mpr ⟨hx, decide_eq_true rfl⟩, rfl⟩
    have ndO : (((stps N).filter fun e => decide (e.1 = v)).map Prod.snd).Nodup := by
      have n2 := nd.filter (p := fun e : Int × Int => decide (e.1 = v))
      refine List.pairwise_map.mpr (List.Pairwise.imp_of_mem (fun {a b} ha hb hab z => hab ?_) n2)
      rw [List.mem_filter, decide_eq_true_eq] at ha hb
      exact Prod.ext (ha.2.trans hb.2.symm) z
    have := sub_all ndO (fun x hx => (mI x).mpr (hO x ((mO x).mp hx))) (by rw [List.length_map, List.length_map, deg_eq v N]; exact Nat.le_refl _) u ((mI u).mpr h.1)
    exact h.2 ((mO u).mp this)
theorem area_o (a b c : Pt) : area a b c = crs a b + crs b c + crs c a := by unfold area crs; grind
/-- triangles have an edge -/
theorem bnd_some {p : Int → Pt} {N : List Tri} (ne : N ≠ []) (pos : ∀ t ∈ N, 0 < area (p t.a) (p t.b) (p t.c)) (nd : (stps N).Nodup) : ∃ e, Bnd N e := by
  by_cases k : ∃ e, Bnd N e
  · exact k
  · exfalso
    have z : lsum (fun e : Int × Int => crs (p e.1) (p e.2)) (stps N) = 0 := lsum_anti (g := swp) nd (fun e he => by
      by_cases h : swp e ∈ stps N
      · exact h
      · exact absurd ⟨e, he, h⟩ k) swp_swp (fun e => crs_neg _ _)
    have e1 : lsum (fun e : Int × Int => crs (p e.1) (p e.2)) (stps N) = lsum (fun t : Tri => area (p t.a) (p t.b) (p t.c)) N := by
      unfold stps
      rw [lsum_flat]
      refine lsum_congr fun t _ => ?_
      rw [area_o]
      show crs (p t.a) (p t.b) + (crs (p t.b) (p t.c) + (crs (p t.c) (p t.a) + 0)) = _
      omega
    obtain ⟨t, ht⟩ := List.exists_mem_of_ne_nil N ne
    have := lsum_one (f := fun t : Tri => area (p t.a) (p t.b) (p t.c)) (fun t ht => Int.le_of_lt (pos t ht)) ht
    have := pos t ht
    omega
theorem cyc_next {F : List Int} (nd : F.Nodup) {u v w : Int} (h : (u, v) ∈ cyc F) (k : (v, w) ∈ cyc F) {j : Nat} (hj : (cyc F)[j]? = some (u, v)) : (cyc F)[(j + 1) % F.length]? = some (v, w) := by
  have hjl : j < F.length := by
    have := (List.getElem?_eq_some_iff.mp hj).1
    rwa [cyc_len] at this
  obtain ⟨a, b, h1, h2, h3⟩ := cyc_get F hjl
  rw [hj] at h3
  simp only [Option.some.injEq, Prod.mk.injEq] at h3
  obtain ⟨rfl, rfl⟩ := h3
  obtain ⟨i, hi, hi'⟩ := List.getElem_of_mem k
  have hil : i < F.length := by rwa [cyc_len] at hi
  obtain ⟨a', b', k1, k2, k3⟩ := cyc_get F hil
  rw [List.getElem?_eq_getElem hi, hi'] at k3
  simp only [Option.some.injEq, Prod.mk.injEq] at k3
  obtain ⟨rfl, rfl⟩ := k3
  have hm : (j + 1) % F.length < F.length := Nat.mod_lt _ (by omega)
  have : i = (j + 1) % F.length := by
    have g1 := List.getElem?_eq_some_iff.mp k1
    have g2 := List.getElem?_eq_some_iff.mp h2
    obtain ⟨q1, e1⟩ := g1
    obtain ⟨q2, e2⟩ := g2
    exact (List.getElem_inj nd).mp (e1.trans e2.symm)
  rw [← this, List.getElem?_eq_getElem hi, hi']
/-- edges that all run round: none lacks -/
theorem bnd_all {p : Int → Pt} {N : List Tri} {F : List Int} (ne : N ≠ []) (pos : ∀ t ∈ N, 0 < area (p t.a) (p t.b) (p t.c)) (nd : (stps N).Nodup) (ndF : F.Nodup) (h : ∀ e, Bnd N e → e ∈ cyc F) : ∀ e ∈ cyc F, Bnd N e := by
  obtain ⟨e0, h0⟩ := bnd_some ne pos nd
  obtain ⟨j0, hj0, he0⟩ := List.getElem_of_mem (h e0 h0)
  have hn : 0 < F.length := by rw [cyc_len] at hj0; omega
  have step : ∀ k : Nat, ∃ e, (cyc F)[(j0 + k) % F.length]? = some e ∧ Bnd N e := by
    intro k
    induction k with
    | zero =>
      refine ⟨e0, ?_, h0⟩
      rw [cyc_len] at hj0
      rw [Nat.add_zero, Nat.mod_eq_of_lt hj0, List.getElem?_eq_getElem (by rw [cyc_len]; exact hj0), he0]
    | succ k ih =>
      obtain ⟨e, he, hb⟩ := ih
      obtain ⟨w, hw⟩ := bnd_next nd (u := e.1) (v := e.2) hb
      have := cyc_next ndF (h _ hb) (h _ hw) (j := (j0 + k) % F.length) he
      refine ⟨(e.2, w), ?_, hw⟩
      rw [← this, Nat.mod_add_mod]
      rfl
  intro e he
  obtain ⟨j, hj, rfl⟩ := List.getElem_of_mem he
  rw [cyc_len] at hj
  rw [cyc_len] at hj0
  obtain ⟨e', he', hb⟩ := step (F.length - j0 + j)
  rw [show j0 + (F.length - j0 + j) = F.length + j by omega, Nat.add_mod_left, Nat.mod_eq_of_lt hj, List.getElem?_eq_getElem (by rw [cyc_len]; exact hj)] at he'
  cases he'
  exact hb
end T
/-! the points joined one by one: a net at each turn -/
namespace T
theorem prs_fsts : ∀ L : List Int, (prs L).map (·.1) = L.dropLast
  | [] => rfl
  | [_] => rfl
  | a :: b :: t => by
    rw [prs_cons, List.map_cons, prs_fsts (b :: t)]
    rfl
theorem prs_snds : ∀ L : List Int, (prs L).map (·.2) = L.tail
  | [] => rfl
  | [_] => rfl
  | a :: b :: t => by
    rw [prs_cons, List.map_cons, prs_snds (b :: t)]
    rfl
theorem cyc_fsts (A : List Int) : (cyc A).map (·.1) = A := by
  unfold cyc
  rw [prs_fsts, List.dropLast_concat]
theorem cyc_snds {a : Int} {A : List Int} : (cyc (a :: A)).map (·.2) = A ++ [a] := by
  unfold cyc
  rw [prs_snds]
  rfl
theorem cyc_snds_nd {A : List Int} (nd : A.Nodup) : ((cyc A).map (·.2)).Nodup := by
  cases A with
  | nil => exact List.nodup_nil
  | cons a A =>
    rw [cyc_snds]
    exact (List.perm_append_comm (l₁ := A) (l₂ := [a])).nodup_iff.mpr nd
theorem cyc_mem_snds {A : List Int} {x : Int} : x ∈ (cyc A).map (·.2) ↔ x ∈ A := by
  cases A with
  | nil => exact Iff.rfl
  | cons a A => rw [cyc_snds, List.mem_append, List.mem_singleton, List.mem_cons, or_comm]
theorem map_inj_mem {α β : Type} {f : α → β} {l : List α} (nd : (l.map f).Nodup) {x y : α} (hx : x ∈ l) (hy : y ∈ l) (e : f x = f y) : x = y := by
  obtain ⟨i, hi, rfl⟩ := List.getElem_of_mem hx
  obtain ⟨j, hj, rfl⟩ := List.getElem_of_mem hy
  have : (l.map f)[i]'(by rw [List.length_map]; exact hi) = (l.map f)[j]'(by rw [List.length_map]; exact hj) := by rw [List.getElem_map, List.getElem_map]; exact e
  have := (List.getElem_inj nd).mp this
  subst this
  rfl
theorem cyc_nd {A : List Int} (nd : A.Nodup) : (cyc A).Nodup := by
  have : ((cyc A).map (·.1)).Nodup := by rw [cyc_fsts]; exact nd
  exact List.Pairwise.imp (fun {a b} h z => h (by rw [z])) (List.pairwise_map.mp this)
theorem cyc_out {A : List Int} (nd : A.Nodup) {e f : Int × Int} (he : e ∈ cyc A) (hf : f ∈ cyc A) (h : e.1 = f.1) : e = f := map_inj_mem (f := (·.1)) (by rw [cyc_fsts]; exact nd) he hf h
theorem cyc_in {A : List Int} (nd : A.Nodup) {e f : Int × Int} (he : e ∈ cyc A) (hf : f ∈ cyc A) (h : e.2 = f.2) : e = f := map_inj_mem (f := (·.2)) (cyc_snds_nd nd) he hf h
theorem cyc_ex_out {A : List Int} {x : Int} (h : x ∈ A) : ∃ e ∈ cyc A, e.1 = x := by
  rw [← cyc_fsts A] at h
  obtain ⟨e, he, rfl⟩ := List.mem_map.mp h
  exact ⟨e, he, rfl⟩
theorem cyc_ex_in {A : List Int} {x : Int} (h : x ∈ A) : ∃ e ∈ cyc A, e.2 = x := by
  obtain ⟨e, he, rfl⟩ := List.mem_map.mp (cyc_mem_snds.mpr h)
  exact ⟨e, he, rfl⟩
theorem cyc_mem {A : List Int} {e : Int × Int} (h : e ∈ cyc A) : e.1 ∈ A ∧ e.2 ∈ A := ⟨by rw [← cyc_fsts A]; exact List.mem_map.mpr ⟨e, h, rfl⟩, cyc_mem_snds.mp (List.mem_map.mpr ⟨e, h, rfl⟩)⟩
theorem cyc_rot {P Q : List Int} {e : Int × Int} : e ∈ cyc (P ++ Q) ↔ e ∈ cyc (Q ++ P) := by
  cases P with
  | nil => simp
  | cons a P =>
    cases Q with
    | nil => simp
    | cons b Q =>
      have h : ∀ (a b : Int) (P Q : List Int), cyc (a :: P ++ b :: Q) = prs (a :: P ++ [b]) ++ prs (b :: Q ++ [a]) := fun a b P Q => by
        show prs (a :: P ++ b :: Q ++ [a]) = _
        rw [show a :: P ++ b :: Q ++ [a] = (a :: P) ++ b :: (Q ++ [a]) by simp, prs_app]
        rfl
      rw [h a b P Q, h b a Q P, List.mem_append, List.mem_append, or_comm]
/-! ### triangles of pairs and a top -/
def fan (q : Int) (L : List (Int × Int)) : List Tri := L.map fun e => ⟨e.1, e.2, q⟩
theorem fan_perm (q : Int) : ∀ L : List (Int × Int), (stps (fan q L)).Perm (L ++ (L.map fun e => (e.2, q)) ++ L.map fun e => (q, e.1))
  | [] => .nil
  | e :: L => by
    have ih := fan_perm q L
    show (stps ((⟨e.1, e.2, q⟩ : Tri) :: fan q L)).Perm _
    rw [stps_cons]
    show (e :: (e.2, q) :: (q, e.1) :: stps (fan q L)).Perm (e :: (L ++ ((e.2, q) :: L.map fun e => (e.2, q)) ++ (q, e.1) :: L.map fun e => (q, e.1)))
    refine .cons _ ?_
    have p1 : ((e.2, q) :: (q, e.1) :: stps (fan q L)).Perm ((e.2, q) :: (q, e.1) :: (L ++ (L.map fun e => (e.2, q)) ++ L.map fun e => (q, e.1))) := .cons _ (.cons _ ih)
    refine p1.trans ?_
    have p2 : ((q, e.1) :: (L ++ (L.map fun e => (e.2, q)) ++ L.map fun e => (q, e.1))).Perm ((L ++ (L.map fun e => (e.2, q))) ++ (q, e.1) :: L.map fun e => (q, e.1)) := List.perm_middle.symm
    refine (p2.cons _).trans ?_
    rw [List.append_assoc, List.append_assoc]
    exact List.perm_middle.symm
theorem fan_mem {q : Int} {L : List (Int × Int)} {s : Int × Int} : s ∈ stps (fan q L) ↔ s ∈ L ∨ (∃ e ∈ L, s = (e.2, q)) ∨ ∃ e ∈ L, s = (q, e.1) := by
  rw [(fan_perm q L).mem_iff, List.mem_append, List.mem_append, List.mem_map, List.mem_map, or_assoc]
  constructor
  · rintro (h | ⟨e, he, rfl⟩ | ⟨e, he, rfl⟩)
    · exact .inl h
    · exact .inr (.inl ⟨e, he, rfl⟩)
    · exact .inr (.inr ⟨e, he, rfl⟩)
  · rintro (h | ⟨e, he, rfl⟩ | ⟨e, he, rfl⟩)
    · exact .inl h
    · exact .inr (.inl ⟨e, he, rfl⟩)
    · exact .inr (.inr ⟨e, he, rfl⟩)
theorem fan_nd {q : Int} {L : List (Int × Int)} (n1 : (L.map (·.1)).Nodup) (n2 : (L.map (·.2)).Nodup) (hq : ∀ e ∈ L, e.1 ≠ q ∧ e.2 ≠ q) : (stps (fan q L)).Nodup := by
  rw [(fan_perm q L).nodup_iff]
  have n0 : L.Nodup := List.Pairwise.imp (fun {a b} h z => h (by rw [z])) (List.pairwise_map.mp n1)
  refine List.nodup_append.mpr ⟨List.nodup_append.mpr ⟨n0, ?_, ?_⟩, ?_, ?_⟩
  · exact List.pairwise_map.mpr (List.Pairwise.imp (fun {a b} h z => h (Prod.mk.inj z).1) (List.pairwise_map.mp n2))
  · intro a ha b hb z
    obtain ⟨e, he, rfl⟩ := List.mem_map.mp hb
    exact (hq a ha).2 (by rw [z])
  · exact List.pairwise_map.mpr (List.Pairwise.imp (fun {a b} h z => h (Prod.mk.inj z).2) (List.pairwise_map.mp n1))
  · intro a ha b hb z
    obtain ⟨e, he, rfl⟩ := List.mem_map.mp hb
    rcases List.mem_append.mp ha with ha | ha
    · exact (hq a ha).1 (by rw [z])
    · obtain ⟨f, hf, rfl⟩ := List.mem_map.mp ha
      exact (hq f hf).2 (Prod.mk.inj z).1
theorem two_ends {a b l : Int} {T T' : List Int} (e : a :: b :: T = T' ++ [l]) : l ∈ b :: T ∧ a ∈ T' := by
  cases T' with
  | nil => simp at e
  | cons c T'' =>
    rw [List.cons_append, List.cons.injEq] at e
    exact ⟨by rw [e.2]; simp, by rw [e.1]; simp⟩
theorem len_filter {α : Type} (f : α → Bool) : ∀ l : List α, (l.filter f).length + (l.filter fun x => !f x).length = l.length
  | [] => rfl
  | a :: r => by
    have := len_filter f r
    rw [List.filter_cons, List.filter_cons, List.length_cons]
    cases f a <;> simp <;> omega
/-! ### what each turn keeps -/
structure Swept (p : Int → Pt) (D : List Int) (tr : List Tri) (A : List Int) : Prop where
  pos : ∀ t ∈ tr, 0 < area (p t.a) (p t.b) (p t.c)
  nd : (stps tr).Nodup
  inS : ∀ e ∈ stps tr, e.1 ∈ D ∧ e.2 ∈ D
  bnd : ∀ e, e ∈ cyc A ↔ Bnd tr e
  all : ∀ x ∈ D, ∃ e ∈ stps tr, e.1 = x
  num : tr.length + A.length + 2 = 2 * D.length
section
variable {p : Int → Pt}
theorem swept_0 {o0 o1 z : Int} {R row : List Int} (up : (o0 :: o1 :: R ++ [z]).Pairwise fun a b => lx (p a) (p b)) (flat : ∀ x ∈ R, area (p o0) (p o1) (p x) = 0)
    (h : 0 < area (p o0) (p o1) (p z) ∧ row = o0 :: o1 :: R ∨ area (p o0) (p o1) (p z) < 0 ∧ row = (o0 :: o1 :: R).reverse) : Swept p (o0 :: o1 :: R ++ [z]) ((prs row).map fun e => ⟨e.1, e.2, z⟩) (row ++ [z]) := by
  have nd := nodup_up up
  have ndr : (o0 :: o1 :: R).Nodup := (List.nodup_append.mp nd).1
  have zr : ∀ x ∈ o0 :: o1 :: R, x ≠ z := fun x hx e => (List.nodup_append.mp nd).2.2 x hx z (by simp) e
  have mrow : ∀ x, x ∈ row ↔ x ∈ o0 :: o1 :: R := fun x => by
    rcases h with ⟨_, rfl⟩ | ⟨_, rfl⟩
    · exact Iff.rfl
    · exact List.mem_reverse
  have ndrow : row.Nodup := by
    rcases h with ⟨_, rfl⟩ | ⟨_, rfl⟩
    · exact ndr
    · exact (List.reverse_perm _).nodup_iff.mpr ndr
  have len : row.length = R.length + 2 := by
    rcases h with ⟨_, rfl⟩ | ⟨_, rfl⟩
    · rfl
    · simp
  have upr := (List.pairwise_append.mp up).1
  have pos : ∀ e ∈ prs row, 0 < area (p e.1) (p e.2) (p z) := fun e he => by
    rcases h with ⟨hz, rfl⟩ | ⟨hz, rfl⟩
    · have i := prs_in he
      have := row_pos (.inl rfl) up flat (by unfold Ar; omega) i.1 i.2 (prs_lx upr he)
      unfold Ar at this
      omega
    · rw [prs_rev] at he
      obtain ⟨f, hf, rfl⟩ := List.mem_map.mp (List.mem_reverse.mp he)
      have i := prs_in hf
      have := row_pos (.inr rfl) up flat (by unfold Ar; omega) i.1 i.2 (prs_lx upr hf)
      unfold Ar at this
      show 0 < area (p f.2) (p f.1) (p z)
      rw [area_flip]
      omega
  have sub1 : ((prs row).map (·.1)).Nodup := by rw [prs_fsts]; exact ndrow.sublist (List.dropLast_sublist _)
  have sub2 : ((prs row).map (·.2)).Nodup := by rw [prs_snds]; exact ndrow.sublist (List.tail_sublist _)
  have inr : ∀ e ∈ prs row, e.1 ∈ o0 :: o1 :: R ∧ e.2 ∈ o0 :: o1 :: R := fun e he => ⟨(mrow _).mp (prs_in he).1, (mrow _).mp (prs_in he).2⟩
  have fq : ∀ e ∈ prs row, e.1 ≠ z ∧ e.2 ≠ z := fun e he => ⟨zr _ (inr e he).1, zr _ (inr e he).2⟩
  obtain ⟨a, b, T, eR⟩ : ∃ a b T, row = a :: b :: T := by
    match row, len with
    | a :: b :: T, _ => exact ⟨a, b, T, rfl⟩
  obtain ⟨T', l, eL⟩ : ∃ T' l, row = T' ++ [l] := ⟨row.dropLast, row.getLast (by rw [eR]; simp), (List.dropLast_concat_getLast _).symm⟩
  have ecyc : cyc (row ++ [z]) = prs row ++ [(l, z), (z, a)] := by
    unfold cyc
    have : (row ++ [z]).headD 0 = a := by rw [eR]; rfl
    rw [this, eL, show T' ++ [l] ++ [z] ++ [a] = T' ++ l :: [z, a] by simp, prs_app]
    rfl
  have f1 : ∀ x, (∃ e ∈ prs row, e.1 = x) ↔ x ∈ T' := fun x => by
    have : T' = (prs row).map (·.1) := by rw [prs_fsts, eL, List.dropLast_concat]
    rw [this, List.mem_map]
  have f2 : ∀ x, (∃ e ∈ prs row, e.2 = x) ↔ x ∈ b :: T := fun x => by
    have : b :: T = (prs row).map (·.2) := by rw [prs_snds, eR]; rfl
    rw [this, List.mem_map]
  refine ⟨fun t ht => ?_, fan_nd sub1 sub2 fq, fun e he => ?_, fun s => ?_, fun x hx => ?_, ?_⟩
  · obtain ⟨e, he, rfl⟩ := List.mem_map.mp ht
    exact pos e he
  · have in' : ∀ {x}, x ∈ o0 :: o1 :: R → x ∈ o0 :: o1 :: R ++ [z] := fun h => List.mem_append.mpr (.inl h)
    rcases (fan_mem (q := z) (L := prs row)).mp he with h | ⟨f, hf, rfl⟩ | ⟨f, hf, rfl⟩
    · exact ⟨in' (inr _ h).1, in' (inr _ h).2⟩
    · exact ⟨in' (inr _ hf).2, by simp⟩
    · exact ⟨by simp, in' (inr _ hf).1⟩
  · rw [ecyc, List.mem_append]
    have nrev : ∀ e ∈ prs row, swp e ∉ prs row := fun e he hs => by
      have h1 := pos e he
      have h2 := pos _ hs
      unfold swp at h2
      dsimp only at h2
      rw [area_flip] at h2
      omega
    show _ ↔ s ∈ stps (fan z (prs row)) ∧ swp s ∉ stps (fan z (prs row))
    rw [fan_mem, fan_mem]
    constructor
    · rintro (hs | hs)
      · refine ⟨.inl hs, ?_⟩
        rintro (k | ⟨e, he, k⟩ | ⟨e, he, k⟩)
        · exact nrev s hs k
        · exact (fq s hs).1 (congrArg Prod.snd k)
        · exact (fq s hs).2 (congrArg Prod.fst k)
      · simp only [List.mem_cons, List.not_mem_nil, or_false] at hs
        rcases hs with rfl | rfl
        · -- (l, z)
          have lin : l ∈ b :: T := (two_ends (eR.symm.trans eL)).1
          obtain ⟨e, he, el⟩ := (f2 l).mpr lin
          refine ⟨.inr (.inl ⟨e, he, by rw [el]⟩), ?_⟩
          rintro (k | ⟨f, hf, k⟩ | ⟨f, hf, k⟩)
          · exact (fq _ k).1 rfl
          · have k1 : z = f.2 := congrArg Prod.fst k
            exact (fq f hf).2 k1.symm
          · have k1 : l = f.1 := congrArg Prod.snd k
            have : l ∈ T' := (f1 l).mp ⟨f, hf, k1.symm⟩
            rw [eL] at ndrow
            exact (List.nodup_append.mp ndrow).2.2 l this l (by simp) rfl
        · -- (z, a)
          have ain : a ∈ T' := (two_ends (eR.symm.trans eL)).2
          obtain ⟨e, he, el⟩ := (f1 a).mpr ain
          refine ⟨.inr (.inr ⟨e, he, by rw [el]⟩), ?_⟩
          rintro (k | ⟨f, hf, k⟩ | ⟨f, hf, k⟩)
          · exact (fq _ k).2 rfl
          · have k1 : a = f.2 := congrArg Prod.fst k
            have : a ∈ b :: T := (f2 a).mp ⟨f, hf, k1.symm⟩
            rw [eR] at ndrow
            exact (List.nodup_cons.mp ndrow).1 this
          · have k1 : z = f.1 := congrArg Prod.snd k
            exact (fq f hf).1 k1.symm
    · rintro ⟨hs | ⟨e, he, rfl⟩ | ⟨e, he, rfl⟩, k⟩
      · exact .inl hs
      · refine .inr ?_
        have hm : e.2 ∈ row := (prs_in he).2
        rw [eL] at hm
        rcases List.mem_append.mp hm with h | h
        · exfalso
          obtain ⟨f, hf, ef⟩ := (f1 e.2).mpr h
          exact k (.inr (.inr ⟨f, hf, by rw [ef]; rfl⟩))
        · rw [List.mem_singleton.mp h]; simp
      · refine .inr ?_
        have hm : e.1 ∈ row := (prs_in he).1
        rw [eR] at hm
        rcases List.mem_cons.mp hm with h | h
        · rw [h]; simp
        · exfalso
          obtain ⟨f, hf, ef⟩ := (f2 e.1).mpr h
          exact k (.inr (.inl ⟨f, hf, by rw [ef]; rfl⟩))
  · show ∃ e ∈ stps (fan z (prs row)), e.1 = x
    have he : (a, b) ∈ prs row := by rw [eR, prs_cons]; simp
    rcases List.mem_append.mp hx with h | h
    · have hm := (mrow x).mpr h
      rw [eL] at hm
      rcases List.mem_append.mp hm with h' | h'
      · obtain ⟨f, hf, ef⟩ := (f1 x).mpr h'
        exact ⟨f, fan_mem.mpr (.inl hf), ef⟩
      · have : x ∈ b :: T ∨ x = a := by
          have hm := (mrow x).mpr h
          rw [eR] at hm
          rcases List.mem_cons.mp hm with e | e
          · exact .inr e
          · exact .inl e
        rcases this with k | k
        · obtain ⟨f, hf, ef⟩ := (f2 x).mpr k
          exact ⟨(f.2, z), fan_mem.mpr (.inr (.inl ⟨f, hf, rfl⟩)), ef⟩
        · exact ⟨(a, b), fan_mem.mpr (.inl he), k.symm⟩
    · rw [List.mem_singleton.mp h]
      exact ⟨(z, a), fan_mem.mpr (.inr (.inr ⟨_, he, rfl⟩)), rfl⟩
  · rw [List.length_map, prs_len, List.length_append, len]
    simp only [List.length_append, List.length_cons, List.length_nil]
    omega
/-- a point more -/
theorem swept_1 {D A A' : List Int} {q : Int} {tr : List Tri} (H : Swept p D tr A) (nA : A.Nodup) (hA : ∀ x ∈ A, x ∈ D) (hq : q ∉ D) (g : Grown p q A A') : Swept p (D ++ [q]) (tr ++ ((cyc A).filter fun e => !keep p q e).map (triOf q)) A' := by
  obtain ⟨X, Y, G, e1, e2, hY, ndG, rfl⟩ := g
  have efan : ((cyc A).filter fun e => !keep p q e).map (triOf q) = fan q (((cyc A).filter fun e => !keep p q e).map swp) := by
    unfold fan
    rw [List.map_map]
    rfl
  rw [efan]
  generalize hV : (cyc A).filter (fun e => !keep p q e) = V at *
  have mV : ∀ e, e ∈ V ↔ e ∈ cyc A ∧ area (p e.1) (p e.2) (p q) < 0 := fun e => by
    rw [← hV, List.mem_filter]
    unfold keep
    simp
  have mK : ∀ e, e ∈ prs G ↔ e ∈ cyc A ∧ ¬ area (p e.1) (p e.2) (p q) < 0 := fun e => by
    rw [← e2, List.mem_append, or_comm, ← List.mem_append, ← e1, List.mem_filter]
    unfold keep
    simp
  have inA : ∀ {e}, e ∈ cyc A → e.1 ∈ D ∧ e.2 ∈ D := fun {e} he => ⟨hA _ (cyc_mem he).1, hA _ (cyc_mem he).2⟩
  have nq : ∀ {x}, x ∈ D → x ≠ q := fun {x} hx e => hq (by rw [← e]; exact hx)
  have mS : ∀ e, e ∈ V.map swp ↔ swp e ∈ V := fun e => by
    rw [List.mem_map]
    constructor
    · rintro ⟨f, hf, rfl⟩; exact hf
    · exact fun h => ⟨_, h, rfl⟩
  have subV : V.Sublist (cyc A) := by rw [← hV]; exact List.filter_sublist
  have n1 : ((V.map swp).map (·.1)).Nodup := by
    rw [List.map_map]
    exact (cyc_snds_nd nA).sublist (subV.map _)
  have n2 : ((V.map swp).map (·.2)).Nodup := by
    rw [List.map_map]
    have := cyc_fsts A
    have h : (V.map (·.1)).Sublist ((cyc A).map (·.1)) := subV.map _
    rw [this] at h
    exact nA.sublist h
  have fq : ∀ e ∈ V.map swp, e.1 ≠ q ∧ e.2 ≠ q := fun e he => by
    have := inA ((mV _).mp ((mS e).mp he)).1
    exact ⟨nq this.2, nq this.1⟩
  have nfan : (stps (fan q (V.map swp))).Nodup := fan_nd n1 n2 fq
  have mE : ∀ s, s ∈ stps (tr ++ fan q (V.map swp)) ↔ s ∈ stps tr ∨ swp s ∈ V ∨ (∃ e ∈ V, s = (e.1, q)) ∨ ∃ e ∈ V, s = (q, e.2) := fun s => by
    rw [stps_app, List.mem_append, fan_mem, mS]
    refine or_congr Iff.rfl (or_congr Iff.rfl (or_congr ?_ ?_))
    · constructor
      · rintro ⟨e, he, rfl⟩; exact ⟨swp e, (mS e).mp he, rfl⟩
      · rintro ⟨e, he, rfl⟩; exact ⟨swp e, (mS _).mpr he, rfl⟩
    · constructor
      · rintro ⟨e, he, rfl⟩; exact ⟨swp e, (mS e).mp he, rfl⟩
      · rintro ⟨e, he, rfl⟩; exact ⟨swp e, (mS _).mpr he, rfl⟩
  have hG : 2 ≤ G.length := by
    have h1 := congrArg List.length e2
    rw [prs_len, List.length_append] at h1
    have := List.length_pos_iff.mpr hY
    omega
  obtain ⟨a, b, T, eG⟩ : ∃ a b T, G = a :: b :: T := by
    match G, hG with
    | a :: b :: T, _ => exact ⟨a, b, T, rfl⟩
  obtain ⟨T', l, eL⟩ : ∃ T' l, G = T' ++ [l] := ⟨G.dropLast, G.getLast (by rw [eG]; simp), (List.dropLast_concat_getLast _).symm⟩
  have ecyc : cyc (G ++ [q]) = prs G ++ [(l, q), (q, a)] := by
    unfold cyc
    have : (G ++ [q]).headD 0 = a := by rw [eG]; rfl
    rw [this, eL, show T' ++ [l] ++ [q] ++ [a] = T' ++ l :: [q, a] by simp, prs_app]
    rfl
  have f1 : ∀ x, (∃ e ∈ prs G, e.1 = x) ↔ x ∈ T' := fun x => by
    have : T' = (prs G).map (·.1) := by rw [prs_fsts, eL, List.dropLast_concat]
    rw [this, List.mem_map]
  have f2 : ∀ x, (∃ e ∈ prs G, e.2 = x) ↔ x ∈ b :: T := fun x => by
    have : b :: T = (prs G).map (·.2) := by rw [prs_snds, eG]; rfl
    rw [this, List.mem_map]
  have lT : l ∉ T' := fun h => by
    rw [eL] at ndG
    exact (List.nodup_append.mp ndG).2.2 l h l (by simp) rfl
  have aT : a ∉ b :: T := fun h => by
    rw [eG] at ndG
    exact (List.nodup_cons.mp ndG).1 h
  have lin : l ∈ b :: T := (two_ends (eG.symm.trans eL)).1
  have ain : a ∈ T' := (two_ends (eG.symm.trans eL)).2
  -- edges of a number: one leads to it, one from it
  have lA : l ∈ A := by
    obtain ⟨e, he, rfl⟩ := (f2 l).mpr lin
    exact (cyc_mem ((mK e).mp he).1).2
  have aA : a ∈ A := by
    obtain ⟨e, he, rfl⟩ := (f1 a).mpr ain
    exact (cyc_mem ((mK e).mp he).1).1
  have outV : ∀ {x}, x ∈ A → x ∉ T' → ∃ e ∈ V, e.1 = x := fun {x} hx h => by
    obtain ⟨e, he, rfl⟩ := cyc_ex_out hx
    refine ⟨e, (mV e).mpr ⟨he, ?_⟩, rfl⟩
    by_cases k : area (p e.1) (p e.2) (p q) < 0
    · exact k
    · exact absurd ((f1 _).mp ⟨e, (mK e).mpr ⟨he, k⟩, rfl⟩) h
  have inV' : ∀ {x}, x ∈ A → x ∉ b :: T → ∃ e ∈ V, e.2 = x := fun {x} hx h => by
    obtain ⟨e, he, rfl⟩ := cyc_ex_in hx
    refine ⟨e, (mV e).mpr ⟨he, ?_⟩, rfl⟩
    by_cases k : area (p e.1) (p e.2) (p q) < 0
    · exact k
    · exact absurd ((f2 _).mp ⟨e, (mK e).mpr ⟨he, k⟩, rfl⟩) h
  have VK1 : ∀ {e f}, e ∈ V → f ∈ prs G → e.1 ≠ f.1 := fun {e f} he hf h => by
    have h1 := (mV e).mp he
    have h2 := (mK f).mp hf
    rw [cyc_out nA h1.1 h2.1 h] at h1
    exact h2.2 h1.2
  have VK2 : ∀ {e f}, e ∈ V → f ∈ prs G → e.2 ≠ f.2 := fun {e f} he hf h => by
    have h1 := (mV e).mp he
    have h2 := (mK f).mp hf
    rw [cyc_in nA h1.1 h2.1 h] at h1
    exact h2.2 h1.2
  refine ⟨fun t ht => ?_, ?_, fun s hs => ?_, fun s => ?_, fun x hx => ?_, ?_⟩
  · rcases List.mem_append.mp ht with ht | ht
    · exact H.pos t ht
    · obtain ⟨e, he, rfl⟩ := List.mem_map.mp ht
      have := ((mV _).mp ((mS e).mp he)).2
      unfold swp at this
      dsimp only at this ⊢
      rw [area_flip] at this
      omega
  · rw [stps_app]
    refine List.nodup_append.mpr ⟨H.nd, nfan, fun s hs t ht z => ?_⟩
    subst z
    rcases fan_mem.mp ht with k | ⟨e, he, k⟩ | ⟨e, he, k⟩
    · have := (mV _).mp ((mS _).mp k)
      exact ((H.bnd _).mp this.1).2 hs
    · have := (H.inS _ hs).2
      rw [k] at this
      exact hq this
    · have := (H.inS _ hs).1
      rw [k] at this
      exact hq this
  · have up : ∀ {x}, x ∈ D → x ∈ D ++ [q] := fun h => List.mem_append.mpr (.inl h)
    rcases (mE s).mp hs with h | h | ⟨e, he, rfl⟩ | ⟨e, he, rfl⟩
    · exact ⟨up (H.inS s h).1, up (H.inS s h).2⟩
    · have := inA ((mV _).mp h).1
      exact ⟨up this.2, up this.1⟩
    · exact ⟨up (inA ((mV _).mp he).1).1, by simp⟩
    · exact ⟨by simp, up (inA ((mV _).mp he).1).2⟩
  · rw [ecyc, List.mem_append]
    show _ ↔ s ∈ stps (tr ++ fan q (V.map swp)) ∧ swp s ∉ stps (tr ++ fan q (V.map swp))
    rw [mE, mE]
    constructor
    · rintro (hs | hs)
      · obtain ⟨h1, h2⟩ := (mK s).mp hs
        have hb := (H.bnd s).mp h1
        have hD := inA h1
        refine ⟨.inl hb.1, ?_⟩
        rintro (k | k | ⟨e, he, k⟩ | ⟨e, he, k⟩)
        · exact hb.2 k
        · exact h2 ((mV s).mp k).2
        · exact nq hD.1 (congrArg Prod.snd k)
        · exact nq hD.2 (congrArg Prod.fst k)
      · simp only [List.mem_cons, List.not_mem_nil, or_false] at hs
        rcases hs with rfl | rfl
        · obtain ⟨e, he, el⟩ := outV lA lT
          refine ⟨.inr (.inr (.inl ⟨e, he, by rw [el]⟩)), ?_⟩
          rintro (k | k | ⟨f, hf, k⟩ | ⟨f, hf, k⟩)
          · exact hq (H.inS _ k).1
          · exact hq (inA ((mV _).mp k).1).2
          · have : q = f.1 := congrArg Prod.fst k
            exact hq (by rw [this]; exact (inA ((mV _).mp hf).1).1)
          · have k1 : l = f.2 := congrArg Prod.snd k
            obtain ⟨g, hg, eg⟩ := (f2 l).mpr lin
            exact VK2 hf hg (by rw [eg, k1])
        · obtain ⟨e, he, el⟩ := inV' aA aT
          refine ⟨.inr (.inr (.inr ⟨e, he, by rw [el]⟩)), ?_⟩
          rintro (k | k | ⟨f, hf, k⟩ | ⟨f, hf, k⟩)
          · exact hq (H.inS _ k).2
          · exact hq (inA ((mV _).mp k).1).1
          · have k1 : a = f.1 := congrArg Prod.fst k
            obtain ⟨g, hg, eg⟩ := (f1 a).mpr ain
            exact VK1 hf hg (by rw [eg, k1])
          · have : q = f.2 := congrArg Prod.snd k
            exact hq (by rw [this]; exact (inA ((mV _).mp hf).1).2)
    · rintro ⟨hs | hs | ⟨e, he, rfl⟩ | ⟨e, he, rfl⟩, k⟩
      · refine .inl ((mK s).mpr ⟨(H.bnd s).mpr ⟨hs, fun z => k (.inl z)⟩, fun z => k (.inr (.inl ?_))⟩)
        exact (mV s).mpr ⟨(H.bnd s).mpr ⟨hs, fun z => k (.inl z)⟩, z⟩
      · exact absurd (.inl ((H.bnd _).mp ((mV _).mp hs).1).1) k
      · -- (e.1, q)
        refine .inr ?_
        have hA1 := (cyc_mem ((mV e).mp he).1).1
        have n2 : e.1 ∈ b :: T := by
          by_cases h : e.1 ∈ b :: T
          · exact h
          · obtain ⟨f, hf, ef⟩ := inV' hA1 h
            exact absurd (.inr (.inr (.inr ⟨f, hf, by rw [ef]; rfl⟩))) k
        have n1 : e.1 ∉ T' := fun h => by
          obtain ⟨f, hf, ef⟩ := (f1 _).mpr h
          exact VK1 he hf ef.symm
        have : e.1 ∈ G := by rw [eG]; exact List.mem_cons_of_mem _ n2
        rw [eL] at this
        rcases List.mem_append.mp this with h | h
        · exact absurd h n1
        · rw [List.mem_singleton.mp h]; simp
      · refine .inr ?_
        have hA1 := (cyc_mem ((mV e).mp he).1).2
        have n2 : e.2 ∈ T' := by
          by_cases h : e.2 ∈ T'
          · exact h
          · obtain ⟨f, hf, ef⟩ := outV hA1 h
            exact absurd (.inr (.inr (.inl ⟨f, hf, by rw [ef]; rfl⟩))) k
        have n1 : e.2 ∉ b :: T := fun h => by
          obtain ⟨f, hf, ef⟩ := (f2 _).mpr h
          exact VK2 he hf ef.symm
        have : e.2 ∈ G := by rw [eL]; exact List.mem_append.mpr (.inl n2)
        rw [eG] at this
        rcases List.mem_cons.mp this with h | h
        · rw [h]; simp
        · exact absurd h n1
  · rcases List.mem_append.mp hx with h | h
    · obtain ⟨e, he, rfl⟩ := H.all x h
      exact ⟨e, (mE e).mpr (.inl he), rfl⟩
    · rw [List.mem_singleton.mp h]
      obtain ⟨e, he, el⟩ := inV' aA aT
      exact ⟨(q, e.2), (mE _).mpr (.inr (.inr (.inr ⟨e, he, rfl⟩))), rfl⟩
  · have h1 := congrArg List.length e2
    rw [prs_len, List.length_append] at h1
    have h2 : (cyc A).length = X.length + Y.length + V.length := by
      have := len_filter (keep p q) (cyc A)
      rw [e1, hV, List.length_append] at this
      omega
    rw [cyc_len] at h2
    have := H.num
    unfold fan
    simp only [List.length_append, List.length_map, List.length_cons, List.length_nil]
    omega
theorem Swept.net {D A : List Int} {tr : List Tri} (H : Swept p D tr A) (hA : HullAt p D A) (inj : ∀ x ∈ D, ∀ y ∈ D, p x = p y → x = y) : Net p D tr := by
  obtain ⟨U, Lo, l, r, rfl, K, _⟩ := hA
  refine ⟨inj, H.pos, H.nd, fun e he => (H.inS e he).1, fun e h1 h2 => ?_, H.all⟩
  have := (H.bnd e).mpr ⟨h1, h2⟩
  have e1 : e ∈ cyc (l :: Lo ++ r :: U) := by
    rw [show U ++ l :: Lo ++ [r] = U ++ (l :: Lo ++ [r]) by simp] at this
    have := cyc_rot.mp this
    rwa [show l :: Lo ++ [r] ++ U = l :: Lo ++ r :: U by simp] at this
  exact side_edge (hull_sides K e e1)
end
end T
/-! nets as they are told: rolled, sorted; a side swapped in the list -/
namespace T
/-! ### sorted lists -/
theorem perm_eq {α : Type} {le : α → α → Prop} (anti : ∀ a b, le a b → le b a → a = b) : ∀ {l m : List α}, l.Perm m → l.Pairwise le → m.Pairwise le → l = m
  | [], m, h, _, _ => h.nil_eq
  | a :: l, [], h, _, _ => by simpa using h.length_eq
  | a :: l, b :: m, h, h1, h2 => by
    have hab : a = b := by
      have ha : a ∈ b :: m := h.mem_iff.mp (by simp)
      have hb : b ∈ a :: l := h.mem_iff.mpr (by simp)
      rcases List.mem_cons.mp ha with e | ha
      · exact e
      · rcases List.mem_cons.mp hb with e | hb
        · exact e.symm
        · exact anti a b ((List.pairwise_cons.mp h1).1 b hb) ((List.pairwise_cons.mp h2).1 a ha)
    subst hab
    rw [perm_eq anti ((List.perm_cons a).mp h) (List.pairwise_cons.mp h1).2 (List.pairwise_cons.mp h2).2]
def leT (x y : Tri) : Bool := !ltT y x
theorem leT_iff {x y : Tri} : leT x y = true ↔ x.a < y.a ∨ (x.a = y.a ∧ (x.b < y.b ∨ (x.b = y.b ∧ x.c ≤ y.c))) := by
  unfold leT ltT
  rw [Bool.not_eq_true', decide_eq_false_iff_not]
  omega
theorem leT_anti (x y : Tri) (h : leT x y = true) (k : leT y x = true) : x = y := by
  rw [leT_iff] at h k
  cases x
  cases y
  simp only [Tri.mk.injEq]
  dsimp only at h k
  omega
theorem leT_trans (x y z : Tri) (h : leT x y = true) (k : leT y z = true) : leT x z = true := by
  rw [leT_iff] at *
  omega
theorem leT_total (x y : Tri) : (leT x y || leT y x) = true := by
  rw [Bool.or_eq_true, leT_iff, leT_iff]
  omega
def srtT (l : List Tri) : List Tri := l.mergeSort leT
theorem srtT_perm (l : List Tri) : (srtT l).Perm l := List.mergeSort_perm _ _
theorem srtT_pw (l : List Tri) : (srtT l).Pairwise fun x y => leT x y = true := List.pairwise_mergeSort leT_trans leT_total l
theorem srtT_eq {l m : List Tri} (h : l.Perm m) : srtT l = srtT m :=
  perm_eq leT_anti ((srtT_perm l).trans (h.trans (srtT_perm m).symm)) (srtT_pw l) (srtT_pw m)
theorem osort_T (l : List Tri) : osort (some l) = some (srtT l) := rfl
def leP (x y : Int × Int) : Bool := !decide (y.1 < x.1 ∨ (y.1 = x.1 ∧ y.2 < x.2))
theorem leP_iff {x y : Int × Int} : leP x y = true ↔ x.1 < y.1 ∨ (x.1 = y.1 ∧ x.2 ≤ y.2) := by
  unfold leP
  rw [Bool.not_eq_true', decide_eq_false_iff_not]
  omega
theorem leP_anti (x y : Int × Int) (h : leP x y = true) (k : leP y x = true) : x = y := by
  rw [leP_iff] at h k
  exact Prod.ext (by omega) (by omega)
theorem leP_trans (x y z : Int × Int) (h : leP x y = true) (k : leP y z = true) : leP x z = true := by
  rw [leP_iff] at *
  omega
theorem leP_total (x y : Int × Int) : (leP x y || leP y x) = true := by
  rw [Bool.or_eq_true, leP_iff, leP_iff]
  omega
def srtP (l : List (Int × Int)) : List (Int × Int) := l.mergeSort leP
theorem srtP_perm (l : List (Int × Int)) : (srtP l).Perm l := List.mergeSort_perm _ _
theorem srtP_pw (l : List (Int × Int)) : (srtP l).Pairwise fun x y => leP x y = true := List.pairwise_mergeSort leP_trans leP_total l
theorem srtP_eq {l m : List (Int × Int)} (h : l.Perm m) : srtP l = srtP m :=
  perm_eq leP_anti ((srtP_perm l).trans (h.trans (srtP_perm m).symm)) (srtP_pw l) (srtP_pw m)
theorem srtP_inj {l m : List (Int × Int)} (h : srtP l = srtP m) : l.Perm m := (srtP_perm l).symm.trans (by rw [h]; exact srtP_perm m)
theorem osort_P (l : List (Int × Int)) : osort (some l) = some (srtP l) := rfl
/-! ### a triangle with its least number first -/
def rol (t : Tri) : Tri := if t.a ≤ t.b ∧ t.a ≤ t.c then t else if t.b ≤ t.c then rot t else rot (rot t)
theorem rol_rot (t : Tri) : rol t = t ∨ rol t = rot t ∨ rol t = rot (rot t) := by
  unfold rol
  split
  · exact .inl rfl
  · split
    · exact .inr (.inl rfl)
    · exact .inr (.inr rfl)
theorem stp_rol (t : Tri) : (stp (rol t)).Perm (stp t) := by
  rcases rol_rot t with h | h | h
  · rw [h]
  · rw [h]; exact stp_rot t
  · rw [h]; exact (stp_rot _).trans (stp_rot t)
theorem stps_rol : ∀ N : List Tri, (stps (N.map rol)).Perm (stps N)
  | [] => .nil
  | t :: r => by
    rw [List.map_cons, stps_cons, stps_cons]
    exact (stp_rol t).append (stps_rol r)
theorem stps_perm {M N : List Tri} (h : M.Perm N) : (stps M).Perm (stps N) := h.flatMap_right _
/-- the triangles' told list -/
def tld (N : List Tri) : List Tri := srtT (N.map rol)
theorem stps_tld (N : List Tri) : (stps (tld N)).Perm (stps N) := (stps_perm (srtT_perm _)).trans (stps_rol N)
/-- distinct numbers -/
def dst (t : Tri) : Prop := t.a ≠ t.b ∧ t.b ≠ t.c ∧ t.c ≠ t.a
theorem dst_rot {t : Tri} (h : dst t) : dst (rot t) := ⟨h.2.1, h.2.2, h.1⟩
theorem rol_of_rot {t : Tri} (h : dst t) : rol (rot t) = rol t := by
  obtain ⟨h1, h2, h3⟩ := h
  unfold rol rot
  dsimp only
  by_cases k1 : t.a ≤ t.b ∧ t.a ≤ t.c
  · rw [if_pos k1, if_neg (by omega), if_neg (by omega)]
  · rw [if_neg k1]
    by_cases k2 : t.b ≤ t.c
    · rw [if_pos k2, if_pos (by omega)]
    · rw [if_neg k2, if_neg (by omega), if_pos (by omega)]
theorem rol_iff {t u : Tri} (ht : dst t) : rol u = rol t ↔ u = t ∨ u = rot t ∨ u = rot (rot t) := by
  constructor
  · intro h
    rcases rol_rot u with e | e | e <;> rcases rol_rot t with f | f | f <;> rw [e, f] at h
    · exact .inl h
    · exact .inr (.inl h)
    · exact .inr (.inr h)
    · exact .inr (.inr (by rw [← h, rot3]))
    · exact .inl (by have := congrArg rot (congrArg rot h); simpa [rot3] using this)
    · exact .inr (.inl (by have := congrArg rot (congrArg rot h); simpa [rot3] using this))
    · exact .inr (.inl (by have := congrArg rot h; simpa [rot3] using this))
    · exact .inr (.inr (by have := congrArg rot h; simpa [rot3] using this))
    · exact .inl (by have := congrArg rot h; simpa [rot3] using this)
  · rintro (rfl | rfl | rfl)
    · rfl
    · exact rol_of_rot ht
    · rw [rol_of_rot (dst_rot ht), rol_of_rot ht]
section
variable {p : Int → Pt} {S : List Int} {N : List Tri} {a b c d : Int}
theorem Net.dst (H : Net p S N) {t : Tri} (h : t ∈ N) : T.dst t := vne (H.pos t h)
theorem area_rolT (p : Int → Pt) (t : Tri) : area (p (rol t).a) (p (rol t).b) (p (rol t).c) = area (p t.a) (p t.b) (p t.c) := by
  rcases rol_rot t with e | e | e <;> rw [e]
  · exact area_rot _ _ _
  · exact area_rot2 _ _ _
theorem Net.of_perm (H : Net p S N) {M : List Tri} (h : (stps M).Perm (stps N)) (pos : ∀ t ∈ M, 0 < area (p t.a) (p t.b) (p t.c)) : Net p S M :=
  ⟨H.inj, pos, h.nodup_iff.mpr H.nd, fun e he => H.inS e (h.mem_iff.mp he), fun e h1 h2 => H.sup e (h.mem_iff.mp h1) (fun z => h2 (h.mem_iff.mpr z)), fun x hx => by
    obtain ⟨e, he, k⟩ := H.all x hx
    exact ⟨e, h.mem_iff.mpr he, k⟩⟩
theorem Net.tld (H : Net p S N) : Net p S (tld N) := H.of_perm (stps_tld N) fun t ht => by
  obtain ⟨u, hu, rfl⟩ := List.mem_map.mp ((srtT_perm _).mem_iff.mp ht)
  rw [area_rolT]
  exact H.pos u hu
theorem Tr_iff {M N : List Tri} (h : ∀ e, e ∈ stps M ↔ e ∈ stps N) : True := trivial
theorem Tr_perm {M N : List Tri} (h : M.Perm N) : Tr M a b c ↔ Tr N a b c := by unfold Tr; rw [h.mem_iff, h.mem_iff, h.mem_iff]
theorem Tr_map_rol {N : List Tri} : Tr (N.map rol) a b c ↔ Tr N a b c := by
  constructor
  · rintro (h | h | h) <;> obtain ⟨u, hu, e⟩ := List.mem_map.mp h <;> rcases rol_rot u with f | f | f <;> rw [f] at e
    · exact .inl (by rw [← e]; exact hu)
    · exact .inr (.inr (by have := congrArg rot (congrArg rot e); simp only [rot3] at this; rw [this] at hu; exact hu))
    · exact .inr (.inl (by have := congrArg rot e; simp only [rot3] at this; rw [this] at hu; exact hu))
    · exact .inr (.inl (by rw [← e]; exact hu))
    · exact .inl (by have := congrArg rot (congrArg rot e); simp only [rot3] at this; rw [this] at hu; exact hu)
    · exact .inr (.inr (by have := congrArg rot e; simp only [rot3] at this; rw [this] at hu; exact hu))
    · exact .inr (.inr (by rw [← e]; exact hu))
    · exact .inr (.inl (by have := congrArg rot (congrArg rot e); simp only [rot3] at this; rw [this] at hu; exact hu))
    · exact .inl (by have := congrArg rot e; simp only [rot3] at this; rw [this] at hu; exact hu)
  · have key : ∀ {u : Tri}, u ∈ N → Tr (N.map rol) u.a u.b u.c := fun {u} hu => by
      have hm : rol u ∈ N.map rol := List.mem_map.mpr ⟨u, hu, rfl⟩
      rcases rol_rot u with f | f | f <;> rw [f] at hm
      · exact .inl hm
      · exact .inr (.inl hm)
      · exact .inr (.inr hm)
    rintro (h | h | h)
    · exact key h
    · exact (key h).rot.rot
    · exact (key h).rot
theorem Tr_tld : Tr (tld N) a b c ↔ Tr N a b c := (Tr_perm (srtT_perm _)).trans Tr_map_rol
/-- told as it should be -/
def Told (N : List Tri) : Prop := tld N = N
theorem rol_rol (t : Tri) : rol (rol t) = rol t := by
  have h : (rol t).a ≤ (rol t).b ∧ (rol t).a ≤ (rol t).c := by
    unfold rol
    split
    · assumption
    · split
      · unfold rot; dsimp only; omega
      · unfold rot; dsimp only; omega
  unfold rol at h ⊢
  rw [if_pos h]
theorem told_tld (N : List Tri) : Told (tld N) := by
  unfold Told
  have e : (tld N).map rol = tld N := by
    have : ∀ t ∈ tld N, rol t = t := fun t ht => by
      obtain ⟨u, hu, rfl⟩ := List.mem_map.mp ((srtT_perm _).mem_iff.mp ht)
      exact rol_rol u
    conv => rhs; rw [← List.map_id (tld N)]
    exact List.map_congr_left this
  show srtT ((tld N).map rol) = tld N
  rw [e]
  exact perm_eq leT_anti (srtT_perm _) (srtT_pw _) (srtT_pw _)
theorem tld_len (N : List Tri) : (tld N).length = N.length := by
  unfold tld
  rw [(srtT_perm _).length_eq, List.length_map]
/-- two nets of the same triangles are told alike -/
theorem told_eq {M N : List Tri} (nM : (M.map rol).Nodup) (nN : (N.map rol).Nodup) (h : ∀ t, t ∈ M.map rol ↔ t ∈ N.map rol) : tld M = tld N :=
  srtT_eq ((List.perm_ext_iff_of_nodup nM nN).mpr h)
theorem Net.nd_rol (H : Net p S N) : (N.map rol).Nodup := (H.of_perm (stps_rol N) fun t ht => by
  obtain ⟨u, hu, rfl⟩ := List.mem_map.mp ht
  rw [area_rolT]
  exact H.pos u hu).ndN
theorem mem_rol (H : Net p S N) {t : Tri} (hd : T.dst t) : rol t ∈ N.map rol ↔ Tr N t.a t.b t.c := by
  rw [List.mem_map]
  constructor
  · rintro ⟨u, hu, e⟩
    rcases (rol_iff hd).mp e with rfl | rfl | rfl
    · exact .inl hu
    · exact .inr (.inl hu)
    · exact .inr (.inr hu)
  · rintro (h | h | h)
    · exact ⟨t, h, rfl⟩
    · exact ⟨_, h, rol_of_rot (t := t) hd⟩
    · exact ⟨_, h, by rw [show (⟨t.c, t.a, t.b⟩ : Tri) = rot (rot t) from rfl, rol_of_rot (dst_rot hd), rol_of_rot hd]⟩
/-- nets of the same triangles -/
theorem net_eq {M : List Tri} (HM : Net p S M) (H : Net p S N) (h : ∀ a b c, Tr M a b c ↔ Tr N a b c) : tld M = tld N := by
  refine told_eq HM.nd_rol H.nd_rol fun t => ?_
  constructor
  · intro ht
    obtain ⟨u, hu, rfl⟩ := List.mem_map.mp ht
    exact (mem_rol H (HM.dst hu)).mpr ((h _ _ _).mp (Tr.of hu))
  · intro ht
    obtain ⟨u, hu, rfl⟩ := List.mem_map.mp ht
    exact (mem_rol HM (H.dst hu)).mpr ((h _ _ _).mpr (Tr.of hu))
/-! ### a side swapped, in the list -/
def hasN (v : Int) (t : Tri) : Prop := v = t.a ∨ v = t.b ∨ v = t.c
instance (v : Int) (t : Tri) : Decidable (hasN v t) := inferInstanceAs (Decidable (_ ∨ _ ∨ _))
theorem hasN_l (v : Int) (t : Tri) : v ∈ [t.a, t.b, t.c] ↔ hasN v t := by unfold hasN; simp
/-- those of N that have not both -/
def rest (N : List Tri) (a b : Int) : List Tri := N.filter fun t => !(decide (hasN a t) && decide (hasN b t))
def flp (N : List Tri) (a b c d : Int) : List Tri := ⟨a, d, c⟩ :: ⟨d, b, c⟩ :: rest N a b
/-- a triangle's own rotations -/
def Rots (t : Tri) (a b c : Int) : Prop := t = ⟨a, b, c⟩ ∨ t = rot ⟨a, b, c⟩ ∨ t = rot (rot ⟨a, b, c⟩)
theorem Rots.stp {t : Tri} (h : Rots t a b c) : (stp t).Perm [(a, b), (b, c), (c, a)] := by
  rcases h with rfl | rfl | rfl
  · exact .refl _
  · exact stp_rot _
  · exact (stp_rot _).trans (stp_rot _)
theorem Rots.has {t : Tri} (h : Rots t a b c) (v : Int) : hasN v t ↔ v = a ∨ v = b ∨ v = c := by
  rcases h with rfl | rfl | rfl
  · exact Iff.rfl
  · show v = b ∨ v = c ∨ v = a ↔ _
    omega
  · show v = c ∨ v = a ∨ v = b ↔ _
    omega
theorem both_step {t : Tri} (ne : a ≠ b) (h1 : hasN a t) (h2 : hasN b t) : (a, b) ∈ T.stp t ∨ (b, a) ∈ T.stp t := by
  unfold hasN at h1 h2
  unfold T.stp
  simp only [List.mem_cons, Prod.mk.injEq, List.not_mem_nil, or_false]
  omega
theorem step_uniq (nd : (stps N).Nodup) {t u : Tri} (ht : t ∈ N) (hu : u ∈ N) {e : Int × Int} (h1 : e ∈ T.stp t) (h2 : e ∈ T.stp u) : t = u := by
  by_cases ne : t = u
  · exact ne
  · exfalso
    induction N with
    | nil => cases ht
    | cons x r ih =>
      rw [stps_cons] at nd
      have h := List.nodup_append.mp nd
      rcases List.mem_cons.mp ht with e1 | ht'
      · rcases List.mem_cons.mp hu with e2 | hu'
        · exact ne (e1.trans e2.symm)
        · rw [e1] at h1
          exact h.2.2 _ h1 _ (mem_stps.mpr ⟨u, hu', h2⟩) rfl
      · rcases List.mem_cons.mp hu with e2 | hu'
        · rw [e2] at h2
          exact h.2.2 _ h2 _ (mem_stps.mpr ⟨t, ht', h1⟩) rfl
        · exact ih h.2.1 ht' hu'
/-- the net in three parts: the side's two triangles, the others -/
theorem Net.parts (H : Net p S N) (h1 : Tr N a b c) (h2 : Tr N b a d) : ∃ t u, Rots t a b c ∧ Rots u b a d ∧ N.Perm (t :: u :: rest N a b) := by
  obtain ⟨t, ht, et⟩ := h1.mem
  obtain ⟨u, hu, eu⟩ := h2.mem
  have n1 := vne (h1.pos H)
  have n2 := vne (h2.pos H)
  have st : (a, b) ∈ T.stp t := (Rots.stp et).mem_iff.mpr (by simp)
  have su : (b, a) ∈ T.stp u := (Rots.stp eu).mem_iff.mpr (by simp)
  refine ⟨t, u, et, eu, ?_⟩
  have e : N.Perm (N.filter (fun t => !(decide (hasN a t) && decide (hasN b t))) ++ N.filter (fun t => !!(decide (hasN a t) && decide (hasN b t)))) := (List.filter_append_perm _ N).symm
  have tu : t ≠ u := fun z => by
    subst z
    have := (Rots.stp et).mem_iff.mp su
    simp at this
    omega
  have f : (N.filter (fun t => !!(decide (hasN a t) && decide (hasN b t)))).Perm [t, u] := by
    refine (List.perm_ext_iff_of_nodup (H.ndN.filter _) (by simp [tu])).mpr fun x => ?_
    rw [List.mem_filter, Bool.not_not, Bool.and_eq_true, decide_eq_true_eq, decide_eq_true_eq, List.mem_cons, List.mem_singleton]
    constructor
    · rintro ⟨hx, k1, k2⟩
      rcases both_step n1.1 k1 k2 with k | k
      · exact .inl (step_uniq H.nd hx ht k st)
      · exact .inr (step_uniq H.nd hx hu k su)
    · rintro (rfl | rfl)
      · exact ⟨ht, (Rots.has et a).mpr (.inl rfl), (Rots.has et b).mpr (.inr (.inl rfl))⟩
      · exact ⟨hu, (Rots.has eu a).mpr (.inr (.inl rfl)), (Rots.has eu b).mpr (.inl rfl)⟩
  exact e.trans ((f.append_left _).trans (List.perm_append_comm (l₁ := rest N a b) (l₂ := [t, u])))
theorem Net.parts_stps (H : Net p S N) (h1 : Tr N a b c) (h2 : Tr N b a d) : (stps N).Perm ([(a, b), (b, c), (c, a)] ++ ([(b, a), (a, d), (d, b)] ++ stps (rest N a b))) := by
  obtain ⟨t, u, et, eu, e⟩ := H.parts h1 h2
  refine (stps_perm e).trans ?_
  rw [stps_cons, stps_cons]
  exact et.stp.append (eu.stp.append (.refl _))
theorem flp_stps (N : List Tri) (a b c d : Int) : stps (flp N a b c d) = [(a, d), (d, c), (c, a)] ++ ([(d, b), (b, c), (c, d)] ++ stps (rest N a b)) := by
  unfold flp
  rw [stps_cons, stps_cons]
  rfl
theorem Net.flp (H : Net p S N) (h1 : Tr N a b c) (h2 : Tr N b a d) (k1 : 0 < area (p a) (p d) (p c)) (k2 : 0 < area (p d) (p b) (p c)) : Net p S (flp N a b c d) := by
  have P := H.parts_stps h1 h2
  have nd := P.nodup_iff.mp H.nd
  obtain ⟨f1, f2⟩ := H.flip_new h1 h2 k1 k2
  have n1 := vne (h1.pos H)
  have n2 := vne (h2.pos H)
  have n3 := vne k1
  have n4 := vne k2
  have hr : ∀ e, e ∈ stps (rest N a b) → e ∈ stps N := fun e he => P.mem_iff.mpr (by simp [he])
  have nd1 := List.nodup_append.mp nd
  have nd2 := List.nodup_append.mp nd1.2.1
  have no1 : ∀ e ∈ [(a, b), (b, c), (c, a)], e ∉ stps (rest N a b) := fun e he z => nd1.2.2 e he e (List.mem_append.mpr (.inr z)) rfl
  have no2 : ∀ e ∈ [(b, a), (a, d), (d, b)], e ∉ stps (rest N a b) := fun e he z => nd2.2.2 e he e z rfl
  refine H.flip h1 h2 k1 k2 (fun t ht => ?_) ?_ fun e => ?_
  · rcases List.mem_cons.mp ht with rfl | ht
    · exact k1
    · rcases List.mem_cons.mp ht with rfl | ht
      · exact k2
      · exact H.pos t (List.mem_filter.mp ht).1
  · rw [flp_stps]
    refine List.nodup_append.mpr ⟨?_, List.nodup_append.mpr ⟨?_, nd2.2.1, ?_⟩, ?_⟩
    · simp; omega
    · simp; omega
    · intro x hx y hy z
      subst z
      simp only [List.mem_cons, List.not_mem_nil, or_false] at hx
      rcases hx with rfl | rfl | rfl
      · exact no2 _ (by simp) hy
      · exact no1 _ (by simp) hy
      · exact f1 (hr _ hy)
    · intro x hx y hy z
      subst z
      simp only [List.mem_cons, List.not_mem_nil, or_false] at hx
      rcases List.mem_append.mp hy with hy | hy
      · simp only [List.mem_cons, List.not_mem_nil, or_false] at hy
        rcases hx with rfl | rfl | rfl <;> simp only [Prod.mk.injEq] at hy <;> omega
      · rcases hx with rfl | rfl | rfl
        · exact no2 _ (by simp) hy
        · exact f2 (hr _ hy)
        · exact no1 _ (by simp) hy
  · rw [flp_stps, P.mem_iff]
    simp only [List.mem_append, List.mem_cons, List.not_mem_nil, or_false]
    constructor
    · rintro ((rfl | rfl | rfl) | (rfl | rfl | rfl) | h)
      · exact .inl ⟨by simp, by simp; omega, by simp; omega⟩
      · exact .inr (.inr rfl)
      · exact .inl ⟨by simp, by simp; omega, by simp; omega⟩
      · exact .inl ⟨by simp, by simp; omega, by simp; omega⟩
      · exact .inl ⟨by simp, by simp; omega, by simp; omega⟩
      · exact .inr (.inl rfl)
      · refine .inl ⟨by simp [h], fun z => ?_, fun z => ?_⟩
        · rw [z] at h; exact no1 _ (by simp) h
        · rw [z] at h; exact no2 _ (by simp) h
    · rintro (⟨(rfl | rfl | rfl) | (rfl | rfl | rfl) | h, z1, z2⟩ | rfl | rfl)
      · exact absurd rfl z1
      · simp
      · simp
      · exact absurd rfl z2
      · simp
      · simp
      · simp [h]
      · simp
      · simp
theorem Net.flp_len (H : Net p S N) (h1 : Tr N a b c) (h2 : Tr N b a d) : (T.flp N a b c d).length = N.length := by
  obtain ⟨t, u, _, _, e⟩ := H.parts h1 h2
  rw [e.length_eq]
  rfl
theorem Tr_rots {x y z : Int} : Tr N x y z ↔ ∃ t ∈ N, Rots t x y z := by
  constructor
  · exact Tr.mem
  · rintro ⟨t, ht, h | h | h⟩
    · exact .inl (by rw [← h]; exact ht)
    · exact .inr (.inl (by rw [h] at ht; exact ht))
    · exact .inr (.inr (by rw [h] at ht; exact ht))
/-- which triangles stand behind a swap -/
theorem flp_Tr {x y z : Int} : Tr (T.flp N a b c d) x y z ↔ Rots ⟨a, d, c⟩ x y z ∨ Rots ⟨d, b, c⟩ x y z ∨ (Tr N x y z ∧ ¬ ((a = x ∨ a = y ∨ a = z) ∧ (b = x ∨ b = y ∨ b = z))) := by
  rw [Tr_rots, Tr_rots]
  constructor
  · rintro ⟨t, ht, h⟩
    rcases List.mem_cons.mp ht with rfl | ht
    · exact .inl h
    · rcases List.mem_cons.mp ht with rfl | ht
      · exact .inr (.inl h)
      · obtain ⟨h1, h2⟩ := List.mem_filter.mp ht
        rw [Bool.not_eq_true', Bool.and_eq_false_iff, decide_eq_false_iff_not, decide_eq_false_iff_not, h.has, h.has] at h2
        exact .inr (.inr ⟨⟨t, h1, h⟩, fun z => by rcases h2 with k | k; exact k z.1; exact k z.2⟩)
  · rintro (h | h | ⟨⟨t, ht, h⟩, k⟩)
    · exact ⟨_, List.mem_cons_self .., h⟩
    · exact ⟨_, List.mem_cons_of_mem _ (List.mem_cons_self ..), h⟩
    · refine ⟨t, List.mem_cons_of_mem _ (List.mem_cons_of_mem _ (List.mem_filter.mpr ⟨ht, ?_⟩)), h⟩
      rw [Bool.not_eq_true', Bool.and_eq_false_iff, decide_eq_false_iff_not, decide_eq_false_iff_not, h.has, h.has]
      by_cases w : a = x ∨ a = y ∨ a = z
      · exact .inr fun z => k ⟨w, z⟩
      · exact .inl w
end
end T
/-! dicts of steps; loops that fold -/
namespace T
local instance tb9 : Tb := ⟨[]⟩
theorem loop_fold {α β γ : Type} {f : α → γ → Option (Out β γ)} {step : γ → α → γ} {Inv : Nat → γ → Prop} : ∀ (xs : List α) (i : Nat) (g : γ), (∀ j x g, xs[j]? = some x → Inv (i + j) g → f x g = some (.go (step g x)) ∧ Inv (i + j + 1) (step g x)) → Inv i g →
    loopL f xs g = some (.go (xs.foldl step g)) ∧ Inv (i + xs.length) (xs.foldl step g)
  | [], i, g, _, h0 => ⟨rfl, h0⟩
  | x :: r, i, g, h, h0 => by
    obtain ⟨h1, h2⟩ := h 0 x g rfl h0
    rw [loopL_go h1, List.foldl_cons]
    have := loop_fold r (i + 1) (step g x) (fun j y g hy hg => by
      have := h (j + 1) y g (by simpa using hy) (by rw [show i + (j + 1) = i + 1 + j by omega]; exact hg)
      rwa [show i + (j + 1) + 1 = i + 1 + j + 1 by omega] at this) h2
    rwa [show i + 1 + r.length = i + (x :: r).length by simp; omega] at this
section
variable {κ β : Type} [DecidableEq κ]
def dps (d : List (κ × β)) (l : List (κ × β)) : List (κ × β) := l.foldl (fun d kv => dput d kv.1 kv.2) d
theorem dput_keys (d : List (κ × β)) (k : κ) (v : β) : (dput d k v).map (·.1) = if k ∈ d.map (·.1) then d.map (·.1) else d.map (·.1) ++ [k] := by
  unfold dput
  by_cases h : k ∈ d.map (·.1)
  · rw [if_pos h, if_pos, List.map_map]
    · refine List.map_congr_left fun x _ => ?_
      show (if x.1 = k then (x.1, v) else x).1 = x.1
      split <;> rfl
    · obtain ⟨x, hx, e⟩ := List.mem_map.mp h
      exact List.any_eq_true.mpr ⟨x, hx, decide_eq_true e⟩
  · rw [if_neg h, if_neg, List.map_append]
    · rfl
    · intro z
      obtain ⟨x, hx, e⟩ := List.any_eq_true.mp z
      exact h (List.mem_map.mpr ⟨x, hx, of_decide_eq_true e⟩)
theorem dps_keys : ∀ (l d : List (κ × β)), (dps d l).map (·.1) = (l.map (·.1)).foldl (fun s v => if v ∈ s then s else s ++ [v]) (d.map (·.1))
  | [], d => rfl
  | x :: r, d => by
    show (dps (dput d x.1 x.2) r).map (·.1) = _
    rw [dps_keys r, dput_keys, List.map_cons, List.foldl_cons]
theorem dps_dd (l : List (κ × β)) : (dps [] l).map (·.1) = dd (l.map (·.1)) := dps_keys l []
theorem dps_app : ∀ (l d : List (κ × β)), ((d ++ l).map (·.1)).Nodup → dps d l = d ++ l
  | [], d, _ => (List.append_nil d).symm
  | x :: r, d, h => by
    show dps (dput d x.1 x.2) r = _
    have hx : x.1 ∉ d.map (·.1) := fun z => by
      rw [List.map_append, List.map_cons] at h
      exact (List.nodup_append.mp h).2.2 _ z _ (List.mem_cons_self ..) rfl
    have e : dput d x.1 x.2 = d ++ [x] := by
      unfold dput
      rw [if_neg]
      intro z
      obtain ⟨y, hy, e⟩ := List.any_eq_true.mp z
      exact hx (List.mem_map.mpr ⟨y, hy, of_decide_eq_true e⟩)
    rw [e, dps_app r (d ++ [x]) (by rw [List.append_assoc]; exact h), List.append_assoc]
    rfl
theorem dps_nd {l : List (κ × β)} (h : (l.map (·.1)).Nodup) : dps [] l = l := dps_app l [] h
theorem dput_len (d : List (κ × β)) (k : κ) (v : β) : (dput d k v).length ≤ d.length + 1 := by
  have := congrArg List.length (dput_keys d k v)
  rw [List.length_map] at this
  rw [this]
  split <;> simp
theorem dget_mem : ∀ {l : List (κ × β)} {k : κ} {v : β}, (l.map (·.1)).Nodup → (k, v) ∈ l → dget l k = some v
  | p :: r, k, v, nd, h => by
    have n := List.nodup_cons.mp nd
    rcases List.mem_cons.mp h with rfl | h
    · exact dget_pos rfl
    · rw [dget_neg (fun z => n.1 (List.mem_map.mpr ⟨(k, v), h, z.symm⟩))]
      exact dget_mem n.2 h
theorem dget_some : ∀ {l : List (κ × β)} {k : κ} {v : β}, dget l k = some v → (k, v) ∈ l
  | [], _, _, h => by cases h
  | p :: r, k, v, h => by
    by_cases e : p.1 = k
    · rw [dget_pos e] at h
      cases h
      rw [← e]
      exact List.mem_cons_self ..
    · rw [dget_neg e] at h
      exact List.mem_cons_of_mem _ (dget_some h)
theorem dget_key {l : List (κ × β)} {k : κ} [Decidable (k ∈ l.map (·.1))] : (dget l k).isSome = decide (k ∈ l.map (·.1)) := by
  cases h : dget l k with
  | some v => rw [decide_eq_true (List.mem_map.mpr ⟨_, dget_some h, rfl⟩)]; rfl
  | none =>
    rw [decide_eq_false]
    · rfl
    · intro z
      induction l with
      | nil => cases z
      | cons p r ih =>
        by_cases e : p.1 = k
        · rw [dget_pos e] at h; cases h
        · rw [dget_neg e] at h
          rw [List.map_cons] at z
          rcases List.mem_cons.mp z with z | z
          · exact e z.symm
          · exact ih h z
end
/-! ### the steps' third numbers -/
def ent (t : Tri) : List ((Int × Int) × Int) := [((t.a, t.b), t.c), ((t.b, t.c), t.a), ((t.c, t.a), t.b)]
def ents (N : List Tri) : List ((Int × Int) × Int) := N.flatMap ent
theorem ents_keys : ∀ N : List Tri, (ents N).map (·.1) = stps N
  | [] => rfl
  | t :: r => by
    unfold ents stps
    rw [List.flatMap_cons, List.flatMap_cons, List.map_append]
    show (ent t).map _ ++ (ents r).map _ = stp t ++ stps r
    rw [ents_keys r]
    rfl
theorem ents_len (N : List Tri) : (ents N).length = 3 * N.length := by
  induction N with
  | nil => rfl
  | cons t r ih =>
    unfold ents at ih ⊢
    rw [List.flatMap_cons, List.length_append, ih, List.length_cons]
    show 3 + _ = _
    omega
theorem stps_len (N : List Tri) : (stps N).length = 3 * N.length := by rw [← ents_keys, List.length_map, ents_len]
theorem mem_ents {N : List Tri} {a b c : Int} : ((a, b), c) ∈ ents N ↔ Tr N a b c := by
  unfold ents
  rw [List.mem_flatMap]
  constructor
  · rintro ⟨t, ht, h⟩
    unfold ent at h
    simp only [List.mem_cons, Prod.mk.injEq, List.not_mem_nil, or_false] at h
    rcases h with ⟨⟨rfl, rfl⟩, rfl⟩ | ⟨⟨rfl, rfl⟩, rfl⟩ | ⟨⟨rfl, rfl⟩, rfl⟩
    · exact .inl ht
    · exact .inr (.inr ht)
    · exact .inr (.inl ht)
  · rintro (h | h | h)
    · exact ⟨_, h, by simp [ent]⟩
    · exact ⟨_, h, by simp [ent]⟩
    · exact ⟨_, h, by simp [ent]⟩
/-- the dict of a net's steps -/
def stD (N : List Tri) : List ((Int × Int) × Int) := dps [] (ents N)
theorem stD_keys (N : List Tri) : (stD N).map (·.1) = dd (stps N) := by unfold stD; rw [dps_dd, ents_keys]
theorem stD_nd {N : List Tri} (h : (stps N).Nodup) : stD N = ents N := dps_nd (by rw [ents_keys]; exact h)
theorem dd_len {α : Type} [DecidableEq α] (l : List α) : (dd l).length ≤ l.length ∧ ((dd l).length = l.length ↔ l.Nodup) := by
  obtain ⟨n, m⟩ := dd_mem l
  have h := sub_len n fun x hx => (m x).mp hx
  refine ⟨h, fun e => ?_, fun nd => by rw [dd_nodup nd]⟩
  have go : ∀ (l s : List α), (l.foldl (fun s v => if v ∈ s then s else s ++ [v]) s).length = s.length + l.length → s.Nodup → (s ++ l).Nodup := by
    intro l
    induction l with
    | nil => intro s _ hs; rw [List.append_nil]; exact hs
    | cons a r ih =>
      intro s he hs
      rw [List.foldl_cons] at he
      have le : ∀ (l s : List α), (l.foldl (fun s v => if v ∈ s then s else s ++ [v]) s).length ≤ s.length + l.length := by
        intro l
        induction l with
        | nil => intro s; exact Nat.le_refl _
        | cons a r ih =>
          intro s
          rw [List.foldl_cons]
          split
          · have := ih s; simp only [List.length_cons]; omega
          · have := ih (s ++ [a]); simp only [List.length_append, List.length_cons, List.length_nil] at this ⊢; omega
      split at he
      · have := le r s
        simp only [List.length_cons] at he
        omega
      · rename_i hn
        have := ih (s ++ [a]) (by rw [he]; simp only [List.length_append, List.length_cons, List.length_nil]; omega) (List.nodup_append.mpr ⟨hs, by simp, fun x hx y hy => by rw [List.mem_singleton.mp hy]; exact fun z => hn (by rw [← z]; exact hx)⟩)
        rwa [List.append_assoc] at this
  have := go l [] (by rw [show l.foldl (fun s v => if v ∈ s then s else s ++ [v]) [] = dd l from rfl, e]; simp) List.nodup_nil
  simpa using this
theorem stD_len {N : List Tri} : (stD N).length ≤ 3 * N.length ∧ ((stD N).length < 3 * N.length ↔ ¬ (stps N).Nodup) := by
  have h1 := congrArg List.length (stD_keys N)
  rw [List.length_map] at h1
  have h2 := dd_len (stps N)
  rw [stps_len] at h2
  rw [h1]
  refine ⟨h2.1, fun k z => ?_, fun k => ?_⟩
  · have := h2.2.mpr z; omega
  · have : ¬ (dd (stps N)).length = 3 * N.length := fun z => k (h2.2.mp z)
    omega
/-- as many firsts as points -/
theorem firsts_all {S : List Int} {E : List (Int × Int)} (nS : S.Nodup) (h : ∀ e ∈ E, e.1 ∈ S) : (dd (E.map (·.1))).length = S.length ↔ ∀ x ∈ S, ∃ e ∈ E, e.1 = x := by
  obtain ⟨n, m⟩ := dd_mem (E.map (·.1))
  have sub : ∀ x ∈ dd (E.map (·.1)), x ∈ S := fun x hx => by
    obtain ⟨e, he, rfl⟩ := List.mem_map.mp ((m x).mp hx)
    exact h e he
  constructor
  · intro e x hx
    have := sub_all n sub (by omega) x hx
    obtain ⟨e, he, rfl⟩ := List.mem_map.mp ((m x).mp this)
    exact ⟨e, he, rfl⟩
  · intro k
    have h1 := sub_len n sub
    have h2 := sub_len nS (m := dd (E.map (·.1))) fun x hx => (m x).mpr (by
      obtain ⟨e, he, rfl⟩ := k x hx
      exact List.mem_map.mpr ⟨e, he, rfl⟩)
    omega
/-- numbers of n points -/
def rgT (n : Int) (t : Tri) : Prop := (0 ≤ t.a ∧ t.a < n) ∧ (0 ≤ t.b ∧ t.b < n) ∧ (0 ≤ t.c ∧ t.c < n)
theorem rgT_stp {n : Int} {N : List Tri} (h : ∀ t ∈ N, rgT n t) {e : Int × Int} (he : e ∈ stps N) : (0 ≤ e.1 ∧ e.1 < n) ∧ 0 ≤ e.2 ∧ e.2 < n := by
  obtain ⟨t, ht, hs⟩ := mem_stps.mp he
  have := h t ht
  unfold rgT at this
  unfold stp at hs
  simp only [List.mem_cons, List.not_mem_nil, or_false] at hs
  rcases hs with rfl | rfl | rfl <;> dsimp only <;> omega
theorem Net.rg {p : Int → Pt} {N : List Tri} {n : Nat} (H : Net p (rngL (n : Int)) N) : ∀ t ∈ N, rgT n t := fun t ht => by
  have h1 := (Tr.of ht).inS H
  have k := fun {x} (h : x ∈ rngL (n : Int)) => mem_rngL.mp h
  exact ⟨k h1.1, k h1.2.1, k h1.2.2⟩
theorem Net.congrS {p : Int → Pt} {S S' : List Int} {N : List Tri} (H : Net p S N) (h : ∀ x, x ∈ S ↔ x ∈ S') : Net p S' N :=
  ⟨fun x hx y hy => H.inj x ((h x).mpr hx) y ((h y).mpr hy), H.pos, H.nd, fun e he => (h _).mp (H.inS e he), fun e h1 h2 x hx => H.sup e h1 h2 x ((h x).mpr hx), fun x hx => H.all x ((h x).mpr hx)⟩
end T
/-! what the law looks at; points in a row; rolled triangles as reckoned -/
namespace T
local instance tb10 : Tb := ⟨[]⟩
theorem rol_mir (t : Tri) : retv (γ := Unit) (Option.bind (oindx (otl (some t)) (ominL (otl (some t)))) fun (v_at : Int) => (oret (o3 (ocat (ocut (otl (some t)) (osome (some v_at)) (some none)) (ocut (otl (some t)) (some none) (osome (some v_at))))))) = some (rol t) := by
  obtain ⟨a, b, c⟩ := t
  have em : ominL (otl (some (⟨a, b, c⟩ : Tri))) = some (minF a [b, c]) := rfl
  have lt : ∀ x y : Int, Ordd.lt x y = decide (x < y) := fun _ _ => rfl
  have ix : ∀ (m : Int) (k : Nat), ([a, b, c] : List Int).idxOf m = k → m ∈ ([a, b, c] : List Int) → oindx (otl (some (⟨a, b, c⟩ : Tri))) (some m) = some (k : Int) := fun m k h hm => by
    show (if m ∈ [a, b, c] then some (([a, b, c].idxOf m : Nat) : Int) else none) = _
    rw [if_pos hm, h]
  have o : otl (some (⟨a, b, c⟩ : Tri)) = some [a, b, c] := rfl
  unfold rol rot
  dsimp only
  have mf : minF a [b, c] = if c < (if b < a then b else a) then c else (if b < a then b else a) := by
    unfold minF
    simp only [List.foldl_cons, List.foldl_nil, lt, decide_eq_true_eq]
  by_cases k1 : a ≤ b ∧ a ≤ c
  · have e : minF a [b, c] = a := by
      rw [mf, if_neg (show ¬ b < a by omega), if_neg (show ¬ c < a by omega)]
    rw [if_pos k1, em, e, ix a 0 (by simp) (by simp), bind_s, o, cut_from, cut_to]
    rfl
  · rw [if_neg k1]
    by_cases k2 : b ≤ c
    · have e : minF a [b, c] = b := by
        rw [mf, if_pos (show b < a by omega), if_neg (show ¬ c < b by omega)]
      have hab : a ≠ b := by omega
      rw [if_pos k2, em, e, ix b 1 (by rw [List.idxOf_cons, beq_false_of_ne hab, List.idxOf_cons_self]; rfl) (by simp), bind_s, o, cut_from, cut_to]
      rfl
    · have e : minF a [b, c] = c := by
        rw [mf]
        split <;> split <;> omega
      have hac : a ≠ c := by omega
      have hbc : b ≠ c := by omega
      rw [if_neg k2, em, e, ix c 2 (by rw [List.idxOf_cons, beq_false_of_ne hac, List.idxOf_cons, beq_false_of_ne hbc, List.idxOf_cons_self]; rfl) (by simp), bind_s, o, cut_from, cut_to]
      rfl
theorem tld_nil : tld [] = [] := List.eq_nil_of_length_eq_zero (by rw [tld_len]; rfl)
/-- all in a row -/
def RowP (pts : List Pt) : Prop := ∀ x ∈ pts, ∀ y ∈ pts, ∀ z ∈ pts, area x y z = 0
theorem rowP_of {pts : List Pt} (nd : pts.Nodup) (hn : pts ≠ []) (hf : ∀ o0 o1 R, ordr pts = o0 :: o1 :: R → ∀ x ∈ R, area (ptAt pts o0) (ptAt pts o1) (ptAt pts x) = 0) : RowP pts := fun x hx y hy z hz => by
  have up := ordr_up nd
  have ol := ordr_len pts
  cases ho : ordr pts with
  | nil => rw [ho] at ol; exact absurd (List.length_eq_zero_iff.mp ol.symm) hn
  | cons o0 R0 =>
    cases R0 with
    | nil =>
      rw [ho] at ol
      obtain ⟨i, i0, i1, rfl⟩ := ptAt_of hx
      obtain ⟨j, j0, j1, rfl⟩ := ptAt_of hy
      have : i = j := by simp at ol; omega
      rw [this]
      exact area_aab _ _
    | cons o1 R' =>
      have f := hf o0 o1 R' ho
      rw [ho] at up
      have ne : ptAt pts o0 ≠ ptAt pts o1 := lx_ne ((List.pairwise_cons.mp up).1 o1 (by simp))
      have all0 : ∀ y ∈ pts, area (ptAt pts o0) (ptAt pts o1) y = 0 := fun y hy => by
        obtain ⟨i, i0, i1, rfl⟩ := ptAt_of hy
        have hi := ordr_mem.mpr ⟨i0, i1⟩
        rw [ho] at hi
        rcases List.mem_cons.mp hi with rfl | hi
        · exact area_aba _ _
        · rcases List.mem_cons.mp hi with rfl | hi
          · exact area_abb _ _
          · exact f i hi
      exact col3 ne (all0 x hx) (all0 y hy) (all0 z hz)
theorem not_rowP {pts : List Pt} (nd : pts.Nodup) (h : ∃ o0 o1 R x, ordr pts = o0 :: o1 :: R ∧ x ∈ R ∧ area (ptAt pts o0) (ptAt pts o1) (ptAt pts x) ≠ 0) : ¬ RowP pts := fun z => by
  obtain ⟨o0, o1, R, x, ho, hx, hne⟩ := h
  have m : ∀ i ∈ ordr pts, ptAt pts i ∈ pts := fun i hi => ptAt_mem (ordr_mem.mp hi).1 (ordr_mem.mp hi).2
  exact hne (z _ (m o0 (by rw [ho]; simp)) _ (m o1 (by rw [ho]; simp)) _ (m x (by rw [ho]; simp [hx])))
theorem hullAt_mem {p : Int → Pt} {D A : List Int} (h : HullAt p D A) {x : Int} (hx : x ∈ A) : x ∈ D := by
  obtain ⟨U, Lo, l, r, rfl, H, _⟩ := h
  rcases List.mem_append.mp (show x ∈ U ++ (l :: Lo ++ [r]) by simpa using hx) with h | h
  · exact H.upp.inS x (by simp [h])
  · exact H.low.inS x h
structure LookF (p : Int → Pt) (S : List Int) (N : List Tri) (row : Prop) : Prop where
  nd : (stps N).Nodup
  pos : ∀ t ∈ N, 0 < area (p t.a) (p t.b) (p t.c)
  row : N = [] → row
  net : N ≠ [] → (∀ e, Bnd N e → Edge p S e.1 e.2 ∧ e.1 ≠ e.2) ∧ ∀ x ∈ S, ∃ e ∈ stps N, e.1 = x
/-- triangles that fill the points -/
def Fil (pts : List Pt) (N : List Tri) : Prop := (N = [] ∧ RowP pts) ∨ Net (ptAt pts) (rngL (pts.length : Int)) N
theorem Net.ne {p : Int → Pt} {S : List Int} {N : List Tri} (H : Net p S N) (hS : S ≠ []) : N ≠ [] := fun z => by
  obtain ⟨x, hx⟩ := List.exists_mem_of_ne_nil S hS
  obtain ⟨e, he, _⟩ := H.all x hx
  rw [z] at he
  cases he
theorem step_ne {p : Int → Pt} {N : List Tri} (pos : ∀ t ∈ N, 0 < area (p t.a) (p t.b) (p t.c)) {e : Int × Int} (he : e ∈ stps N) : e.1 ≠ e.2 := by
  obtain ⟨t, ht, hs⟩ := mem_stps.mp he
  have n := vne (pos t ht)
  unfold stp at hs
  simp only [List.mem_cons, List.not_mem_nil, or_false] at hs
  rcases hs with rfl | rfl | rfl
  · exact n.1
  · exact n.2.1
  · exact n.2.2
theorem rng_ne {pts : List Pt} (hn : pts ≠ []) : rngL (pts.length : Int) ≠ [] := fun z => by
  have := congrArg List.length z
  rw [rngL_lenN] at this
  exact hn (List.length_eq_zero_iff.mp this)
theorem Net.look {pts : List Pt} {N : List Tri} (hn : pts ≠ []) (H : Net (ptAt pts) (rngL (pts.length : Int)) N) : LookF (ptAt pts) (rngL (pts.length : Int)) N (RowP pts) :=
  ⟨H.nd, H.pos, fun z => absurd z (H.ne (rng_ne hn)), fun _ => ⟨fun e he => ⟨H.sup e he.1 he.2, step_ne H.pos he.1⟩, H.all⟩⟩
theorem LookF.toNet {pts : List Pt} {N : List Tri} (nd : pts.Nodup) (hr : ∀ t ∈ N, rgT pts.length t) (h : LookF (ptAt pts) (rngL (pts.length : Int)) N (RowP pts)) (ne : N ≠ []) : Net (ptAt pts) (rngL (pts.length : Int)) N :=
  ⟨fun x hx y hy e => ptAt_inj nd (mem_rngL.mp hx).1 (mem_rngL.mp hx).2 (mem_rngL.mp hy).1 (mem_rngL.mp hy).2 e, h.pos, h.nd, fun e he => mem_rngL.mpr (rgT_stp hr he).1, fun e h1 h2 => ((h.net ne).1 e ⟨h1, h2⟩).1, (h.net ne).2⟩
theorem Fil.rg {pts : List Pt} {N : List Tri} (H : Fil pts N) : ∀ t ∈ N, rgT pts.length t := by
  rcases H with ⟨rfl, _⟩ | H
  · exact fun t ht => nomatch ht
  · exact H.rg
theorem Fil.tld {pts : List Pt} {N : List Tri} (H : Fil pts N) : Fil pts (tld N) := by
  rcases H with ⟨rfl, h⟩ | H
  · exact .inl ⟨tld_nil, h⟩
  · exact .inr H.tld
theorem ordr_rng {pts : List Pt} (x : Int) : x ∈ ordr pts ↔ x ∈ rngL (pts.length : Int) := by rw [ordr_mem, mem_rngL]
/-- the sides of two, the lesser number first -/
def sideB (N : List Tri) (e : Int × Int) : Bool := decide (e.1 < e.2) && decide (swp e ∈ stps N)
def sidesP (N : List Tri) : List (Int × Int) := srtP ((stps N).filter (sideB N))
theorem mem_sidesP {N : List Tri} {e : Int × Int} : e ∈ sidesP N ↔ e.1 < e.2 ∧ e ∈ stps N ∧ swp e ∈ stps N := by
  unfold sidesP
  rw [(srtP_perm _).mem_iff, List.mem_filter]
  unfold sideB
  rw [Bool.and_eq_true, decide_eq_true_eq, decide_eq_true_eq]
  constructor
  · rintro ⟨h1, h2, h3⟩; exact ⟨h2, h1, h3⟩
  · rintro ⟨h1, h2, h3⟩; exact ⟨h2, h1, h3⟩
theorem sidesP_len (N : List Tri) : (sidesP N).length = ((stps N).filter (sideB N)).length := (srtP_perm _).length_eq
end T
/-! a side that was turned over never comes back: it lies over the net for good -/
namespace T
/-- amid e and f (times two): on which side of the way from u to v -/
def am (p : Int → Pt) (e f u v : Int) : Int := area (p u) (p v) (p e) + area (p u) (p v) (p f)
/-- to the left of the way from e to f -/
def nv (p : Int → Pt) (e f : Int) : Pt := (-((p f).2 - (p e).2), (p f).1 - (p e).1)
def crn (p : Int → Pt) (e f u v : Int) : Int := crs (vec (p u) (p v)) (nv p e f)
def GW (p : Int → Pt) (e f u v : Int) : Prop := 0 < am p e f u v ∨ am p e f u v = 0 ∧ 0 ≤ crn p e f u v
def Mm (p : Int → Pt) (h : Int → Int) (e f u v w : Int) : Int := Lam p h u v w e + Lam p h u v w f
/-- the side e f lies over the net -/
def Ov (p : Int → Pt) (h : Int → Int) (N : List Tri) (e f : Int) : Prop := ∃ u v w, Tr N u v w ∧ GW p e f u v ∧ GW p e f v w ∧ GW p e f w u ∧ Mm p h e f u v w < 0
section
variable {p : Int → Pt} {h : Int → Int} {S : List Int} {N : List Tri} {a b c d e f u v w : Int}
theorem am_flip : am p e f v u = - am p e f u v := by unfold am; rw [area_flip (p u) (p v), area_flip (p u) (p v)]; omega
theorem crn_flip : crn p e f v u = - crn p e f u v := by unfold crn crs vec; grind
theorem GW.nn (g : GW p e f u v) : 0 ≤ am p e f u v := by rcases g with g | g <;> omega
theorem mm_rot : Mm p h e f v w u = Mm p h e f u v w := by unfold Mm; rw [lam_rot (a := u) (b := v) (c := w) (d := e), lam_rot (a := u) (b := v) (c := w) (d := f)]
theorem am_bary : area (p a) (p b) (p c) * am p e f u v = am p e f b c * area (p u) (p v) (p a) + am p e f c a * area (p u) (p v) (p b) + am p e f a b * area (p u) (p v) (p c) := by
  have b1 := bary3 (p a) (p b) (p c) (p u) (p v) (p e)
  have b2 := bary3 (p a) (p b) (p c) (p u) (p v) (p f)
  unfold am
  rw [Int.mul_add, b1, b2]
  grind
theorem crn_bary : area (p a) (p b) (p c) * crn p e f u v = crn p e f b c * area (p u) (p v) (p a) + crn p e f c a * area (p u) (p v) (p b) + crn p e f a b * area (p u) (p v) (p c) := by
  unfold crn
  generalize nv p e f = V
  unfold crs vec area
  grind
/-- what lies on the left of two sides lies on the left of what runs between them -/
theorem GW.comb {x y z x' y' z' P Q R : Int} (hP : 0 < P) (hQ : 0 < Q) (hR : 0 < R) (e1 : P * z = x * Q + y * R) (e2 : P * z' = x' * Q + y' * R) (g1 : 0 < x ∨ x = 0 ∧ 0 ≤ x') (g2 : 0 < y ∨ y = 0 ∧ 0 ≤ y') : 0 < z ∨ z = 0 ∧ 0 ≤ z' := by
  have nx : 0 ≤ x * Q := by rcases g1 with g | g; exact Int.le_of_lt (mul_pos' g hQ); rw [g.1]; omega
  have ny : 0 ≤ y * R := by rcases g2 with g | g; exact Int.le_of_lt (mul_pos' g hR); rw [g.1]; omega
  rcases g1 with g | ⟨g, g'⟩
  · have := mul_pos' g hQ
    exact .inl (pos_of_mul hP (by omega))
  · rcases g2 with k | ⟨k, k'⟩
    · have := mul_pos' k hR
      exact .inl (pos_of_mul hP (by omega))
    · rw [g, k] at e1
      have z0 : z = 0 := by
        have : P * z = 0 := by omega
        rcases Int.mul_eq_zero.mp this with h | h <;> omega
      refine .inr ⟨z0, nonneg_of_mul hP ?_⟩
      have := mul_nn g' (Int.le_of_lt hQ)
      have := mul_nn k' (Int.le_of_lt hR)
      omega
theorem GW.left (P : 0 < area (p a) (p b) (p c)) (Q : 0 < area (p b) (p a) (p d)) (k1 : 0 < area (p a) (p d) (p c)) (g1 : GW p e f a b) (g3 : GW p e f c a) : GW p e f a d := by
  have b1 := am_bary (p := p) (e := e) (f := f) (a := a) (b := b) (c := c) (u := a) (v := d)
  have b2 := crn_bary (p := p) (e := e) (f := f) (a := a) (b := b) (c := c) (u := a) (v := d)
  rw [area_aba, Int.mul_zero, Int.zero_add] at b1 b2
  have Q' : 0 < area (p a) (p d) (p b) := by rw [area_rot]; exact Q
  exact GW.comb P Q' k1 b1 b2 g3 g1
theorem GW.right (P : 0 < area (p a) (p b) (p c)) (Q : 0 < area (p b) (p a) (p d)) (k2 : 0 < area (p d) (p b) (p c)) (g1 : GW p e f a b) (g2 : GW p e f b c) : GW p e f d b := by
  have b1 := am_bary (p := p) (e := e) (f := f) (a := a) (b := b) (c := c) (u := d) (v := b)
  have b2 := crn_bary (p := p) (e := e) (f := f) (a := a) (b := b) (c := c) (u := d) (v := b)
  rw [area_abb, Int.mul_zero, Int.add_zero] at b1 b2
  have Q' : 0 < area (p d) (p b) (p a) := by rw [area_rot2]; exact Q
  exact GW.comb P Q' k2 b1 b2 g2 g1
theorem mm_left : Mm p h e f a d c * area (p a) (p b) (p c) = Mm p h e f a b c * area (p a) (p d) (p c) - Lam p h a b c d * am p e f c a := by
  have key : ∀ x, Pl p h a d c x * area (p a) (p b) (p c) - Pl p h a b c x * area (p a) (p d) (p c) = - (Lam p h a b c d * area (p c) (p a) x) := fun x => by
    have id := pl_id (p := p) (h := h) (a := c) (b := a) (c := b) (d := d) x
    have e1 : Pl p h a c d x = - Pl p h a d c x := by
      unfold Pl
      rw [area_flip (p c) (p d) x, area_flip (p d) (p a) x, area_flip (p a) (p c) x]
      grind
    have e2 : area (p a) (p c) (p d) = - area (p a) (p d) (p c) := by unfold area; grind
    have e4 : Pl p h c a b x = Pl p h a b c x := by rw [pl_rot (a := b) (b := c) (c := a), pl_rot (a := a) (b := b) (c := c)]
    have e5 : Lam p h c a b d = Lam p h a b c d := by rw [lam_rot (a := b) (b := c) (c := a), lam_rot (a := a) (b := b) (c := c)]
    rw [e1, e2, e4, e5, area_rot2] at id
    grind
  have k1 := key (p e)
  have k2 := key (p f)
  unfold Mm am
  have l1 : ∀ x, Lam p h a d c x = Pl p h a d c (p x) - h x * area (p a) (p d) (p c) := fun _ => rfl
  have l2 : ∀ x, Lam p h a b c x = Pl p h a b c (p x) - h x * area (p a) (p b) (p c) := fun _ => rfl
  rw [l1, l1, l2 e, l2 f]
  grind
theorem lam_sw : Lam p h b a d c = Lam p h a b c d := by
  unfold Lam Pl
  rw [area_flip (p a) (p b) (p c)]
  have e1 : area (p a) (p d) (p c) = - area (p c) (p d) (p a) := by unfold area; grind
  have e2 : area (p d) (p b) (p c) = area (p b) (p c) (p d) := by unfold area; grind
  have e3 : area (p b) (p a) (p d) = - area (p a) (p b) (p d) := by unfold area; grind
  have e4 : area (p c) (p a) (p d) = - area (p c) (p d) (p a) := by unfold area; grind
  rw [e1, e2, e3, e4]
  grind
theorem am_self (h : 0 < area (p a) (p b) (p c)) : am p a b a b = 0 := by unfold am; rw [area_aba, area_abb]; rfl
/-- the halves of an old triangle lie in the new ones, deeper -/
theorem half (P : 0 < area (p a) (p b) (p c)) (Q : 0 < area (p b) (p a) (p d)) (k1 : 0 < area (p a) (p d) (p c)) (k2 : 0 < area (p d) (p b) (p c)) (L : 0 < Lam p h a b c d)
    (g1 : GW p e f a b) (g2 : GW p e f b c) (g3 : GW p e f c a) (m : Mm p h e f a b c < 0 ∨ Mm p h e f a b c = 0 ∧ 0 < am p e f c a ∧ 0 < am p e f b c) :
    (GW p e f a d ∧ GW p e f d c ∧ GW p e f c a ∧ Mm p h e f a d c < 0) ∨ (GW p e f d b ∧ GW p e f b c ∧ GW p e f c d ∧ Mm p h e f d b c < 0) := by
  have tot : GW p e f d c ∨ GW p e f c d := by
    unfold GW
    rw [am_flip (u := d) (v := c), crn_flip (u := d) (v := c)]
    omega
  rcases tot with t | t
  · refine .inl ⟨g1.left P Q k1 g3, t, g3, ?_⟩
    have e1 := mm_left (p := p) (h := h) (a := a) (b := b) (c := c) (d := d) (e := e) (f := f)
    have n := g3.nn
    have ln := mul_nn (Int.le_of_lt L) n
    rcases m with m | ⟨m, n1, n2⟩
    · have := mul_pos' (show 0 < - Mm p h e f a b c by omega) k1
      rw [Int.neg_mul] at this
      have : 0 < (- Mm p h e f a d c) * area (p a) (p b) (p c) := by rw [Int.neg_mul]; omega
      rw [Int.mul_comm] at this
      have := pos_of_mul P this
      omega
    · have := mul_pos' L n1
      rw [m, Int.zero_mul] at e1
      have : 0 < (- Mm p h e f a d c) * area (p a) (p b) (p c) := by rw [Int.neg_mul]; omega
      rw [Int.mul_comm] at this
      have := pos_of_mul P this
      omega
  · refine .inr ⟨g1.right P Q k2 g2, g2, t, ?_⟩
    have e1 := mm_left (p := p) (h := h) (a := b) (b := c) (c := a) (d := d) (e := e) (f := f)
    -- the other half: b c is the side that both have
    have e2 : Mm p h e f d b c * area (p a) (p b) (p c) = Mm p h e f a b c * area (p d) (p b) (p c) - Lam p h a b c d * am p e f b c := by
      have key : ∀ x, Pl p h d b c x * area (p a) (p b) (p c) - Pl p h a b c x * area (p d) (p b) (p c) = - (Lam p h a b c d * area (p b) (p c) x) := fun x => by
        have id := pl_id (p := p) (h := h) (a := b) (b := c) (c := a) (d := d) x
        have e1 : Pl p h c b d x = - Pl p h d b c x := by
          unfold Pl
          rw [area_flip (p b) (p d) x, area_flip (p d) (p c) x, area_flip (p c) (p b) x]
          grind
        have e2 : area (p c) (p b) (p d) = - area (p d) (p b) (p c) := by unfold area; grind
        have e4 : Pl p h b c a x = Pl p h a b c x := pl_rot x
        have e5 : Lam p h b c a d = Lam p h a b c d := lam_rot
        rw [e1, e2, e4, e5, area_rot] at id
        grind
      have k1 := key (p e)
      have k2 := key (p f)
      unfold Mm am
      have l1 : ∀ x, Lam p h d b c x = Pl p h d b c (p x) - h x * area (p d) (p b) (p c) := fun _ => rfl
      have l2 : ∀ x, Lam p h a b c x = Pl p h a b c (p x) - h x * area (p a) (p b) (p c) := fun _ => rfl
      rw [l1, l1, l2 e, l2 f]
      grind
    have n := g2.nn
    have ln := mul_nn (Int.le_of_lt L) n
    rcases m with m | ⟨m, n1, n2⟩
    · have := mul_pos' (show 0 < - Mm p h e f a b c by omega) k2
      rw [Int.neg_mul] at this
      have : 0 < (- Mm p h e f d b c) * area (p a) (p b) (p c) := by rw [Int.neg_mul]; omega
      rw [Int.mul_comm] at this
      have := pos_of_mul P this
      omega
    · have := mul_pos' L n2
      rw [m, Int.zero_mul] at e2
      have : 0 < (- Mm p h e f d b c) * area (p a) (p b) (p c) := by rw [Int.neg_mul]; omega
      rw [Int.mul_comm] at this
      have := pos_of_mul P this
      omega
/-- of a triangle that has a and b -/
theorem two_of (H : Net p S N) (h1 : Tr N a b c) (h2 : Tr N b a d) (ht : Tr N u v w) (ha : a = u ∨ a = v ∨ a = w) (hb : b = u ∨ b = v ∨ b = w) :
    SameT a b c u v w ∨ SameT b a d u v w := by
  have n := (vne (h1.pos H)).1
  have t1 : ∀ {z}, Tr N a b z → z = c := fun h => H.top1 h h1
  have t2 : ∀ {z}, Tr N b a z → z = d := fun h => H.top1 h h2
  unfold SameT
  rcases ha with rfl | rfl | rfl <;> rcases hb with rfl | rfl | rfl
  · exact absurd rfl n
  · exact .inl (.inl ⟨rfl, rfl, (t1 ht).symm⟩)
  · exact .inr (.inr (.inr ⟨rfl, rfl, (t2 ht.rot.rot).symm⟩))
  · exact .inr (.inl ⟨rfl, rfl, (t2 ht).symm⟩)
  · exact absurd rfl n
  · exact .inl (.inr (.inl ⟨rfl, rfl, (t1 ht.rot).symm⟩))
  · exact .inl (.inr (.inr ⟨rfl, rfl, (t1 ht.rot.rot).symm⟩))
  · exact .inr (.inr (.inl ⟨rfl, rfl, (t2 ht.rot).symm⟩))
  · exact absurd rfl n
theorem flp_l : Tr (flp N a b c d) a d c := flp_Tr.mpr (.inl (.inl rfl))
theorem flp_r : Tr (flp N a b c d) d b c := flp_Tr.mpr (.inr (.inl (.inl rfl)))
theorem Ov.of_half (m : (GW p e f a d ∧ GW p e f d c ∧ GW p e f c a ∧ Mm p h e f a d c < 0) ∨ (GW p e f d b ∧ GW p e f b c ∧ GW p e f c d ∧ Mm p h e f d b c < 0)) : Ov p h (flp N a b c d) e f := by
  rcases m with ⟨g1, g2, g3, m⟩ | ⟨g1, g2, g3, m⟩
  · exact ⟨a, d, c, flp_l, g1, g2, g3, m⟩
  · exact ⟨d, b, c, flp_r, g1, g2, g3, m⟩
theorem Ov.flp (H : Net p S N) (h1 : Tr N a b c) (h2 : Tr N b a d) (k1 : 0 < area (p a) (p d) (p c)) (k2 : 0 < area (p d) (p b) (p c)) (L : 0 < Lam p h a b c d) (o : Ov p h N e f) : Ov p h (T.flp N a b c d) e f := by
  obtain ⟨u, v, w, ht, g1, g2, g3, m⟩ := o
  by_cases hab : (a = u ∨ a = v ∨ a = w) ∧ (b = u ∨ b = v ∨ b = w)
  · have P := h1.pos H
    have Q := h2.pos H
    have A : GW p e f a b → GW p e f b c → GW p e f c a → Mm p h e f a b c < 0 → Ov p h (T.flp N a b c d) e f := fun x y z w => Ov.of_half (half P Q k1 k2 L x y z (.inl w))
    have B : GW p e f b a → GW p e f a d → GW p e f d b → Mm p h e f b a d < 0 → Ov p h (T.flp N a b c d) e f := fun x y z w => by
      rcases half (p := p) (h := h) (e := e) (f := f) Q P (by rw [area_rot]; exact k2) (by rw [area_rot, area_rot]; exact k1) (by rw [lam_sw]; exact L) x y z (.inl w) with ⟨q1, q2, q3, q4⟩ | ⟨q1, q2, q3, q4⟩
      · exact ⟨d, b, c, flp_r, q3, q1, q2, by rw [← mm_rot]; exact q4⟩
      · exact ⟨a, d, c, flp_l, q2, q3, q1, by rw [mm_rot (u := c) (v := a) (w := d)]; exact q4⟩
    rcases two_of H h1 h2 ht hab.1 hab.2 with s | s
    · rcases s with ⟨rfl, rfl, rfl⟩ | ⟨rfl, rfl, rfl⟩ | ⟨rfl, rfl, rfl⟩
      · exact A g1 g2 g3 m
      · exact A g2 g3 g1 (by rw [mm_rot]; exact m)
      · exact A g3 g1 g2 (by rw [← mm_rot]; exact m)
    · rcases s with ⟨rfl, rfl, rfl⟩ | ⟨rfl, rfl, rfl⟩ | ⟨rfl, rfl, rfl⟩
      · exact B g1 g2 g3 m
      · exact B g2 g3 g1 (by rw [mm_rot]; exact m)
      · exact B g3 g1 g2 (by rw [← mm_rot]; exact m)
  · exact ⟨u, v, w, flp_Tr.mpr (.inr (.inr ⟨ht, hab⟩)), g1, g2, g3, m⟩
theorem lam_a : Lam p h a b c a = 0 := by unfold Lam; rw [pl_a]; omega
theorem lam_b : Lam p h a b c b = 0 := by unfold Lam; rw [pl_b]; omega
theorem Ov.new (P : 0 < area (p a) (p b) (p c)) (Q : 0 < area (p b) (p a) (p d)) (k1 : 0 < area (p a) (p d) (p c)) (k2 : 0 < area (p d) (p b) (p c)) (L : 0 < Lam p h a b c d) : Ov p h (T.flp N a b c d) a b := by
  have a1 : am p a b c a = area (p a) (p b) (p c) := by unfold am; rw [area_abb, area_rot2]; omega
  have a2 : am p a b b c = area (p a) (p b) (p c) := by unfold am; rw [area_aba, area_rot]; omega
  refine Ov.of_half (half P Q k1 k2 L (.inr ⟨am_self P, ?_⟩) (.inl (by rw [a2]; exact P)) (.inl (by rw [a1]; exact P)) (.inr ⟨by unfold Mm; rw [lam_a, lam_b]; rfl, by rw [a1]; exact P, by rw [a2]; exact P⟩))
  have : crn p a b a b = ((p b).1 - (p a).1) * ((p b).1 - (p a).1) + ((p b).2 - (p a).2) * ((p b).2 - (p a).2) := by unfold crn crs vec nv; dsimp only; grind
  rw [this]
  have := sq_nn ((p b).1 - (p a).1)
  have := sq_nn ((p b).2 - (p a).2)
  omega
/-- a net's own side does not lie over it -/
theorem Ov.not (H : Net p S N) (h1 : Tr N a b c) : ¬ Ov p h N a b := fun ⟨u, v, w, ht, g1, g2, g3, m⟩ => by
  have P := h1.pos H
  have R := ht.pos H
  let q : Int → Pt := fun i => T.sm 6 (p i)
  let m6 : Pt := (3 * ((p a).1 + (p b).1), 3 * ((p a).2 + (p b).2))
  let g6 : Pt := (2 * ((p u).1 + (p v).1 + (p w).1), 2 * ((p u).2 + (p v).2 + (p w).2))
  let D (x y : Int) : Int := crs (vec (p x) (p y)) (vec m6 g6)
  let k : Int := ((D a b).natAbs : Int) + 1
  let V : Pt := (k * (nv p a b).1 + (vec m6 g6).1, k * (nv p a b).2 + (vec m6 g6).2)
  have kp : 0 < k := by show 0 < ((D a b).natAbs : Int) + 1; omega
  have aq : ∀ x y, area (q x) (q y) m6 = 18 * am p a b x y := fun x y => by
    show area (T.sm 6 (p x)) (T.sm 6 (p y)) (3 * ((p a).1 + (p b).1), 3 * ((p a).2 + (p b).2)) = _
    unfold am area T.sm
    grind
  have cq : ∀ x y, crs (vec (q x) (q y)) V = 6 * (k * crn p a b x y + D x y) := fun x y => by
    show crs (vec (T.sm 6 (p x)) (T.sm 6 (p y))) V = 6 * (k * crs (vec (p x) (p y)) (nv p a b) + crs (vec (p x) (p y)) (vec m6 g6))
    show crs (vec (T.sm 6 (p x)) (T.sm 6 (p y))) (k * (nv p a b).1 + (vec m6 g6).1, k * (nv p a b).2 + (vec m6 g6).2) = _
    generalize vec m6 g6 = G
    generalize nv p a b = n
    unfold crs vec T.sm
    dsimp only
    grind
  have dq : ∀ x y z, (x = u ∧ y = v ∧ z = w) ∨ (x = v ∧ y = w ∧ z = u) ∨ (x = w ∧ y = u ∧ z = v) → D x y = 2 * area (p x) (p y) (p z) - 3 * am p a b x y := fun x y z hh => by
    have : D x y = crs (vec (p x) (p y)) (vec (3 * ((p a).1 + (p b).1), 3 * ((p a).2 + (p b).2)) (2 * ((p u).1 + (p v).1 + (p w).1), 2 * ((p u).2 + (p v).2 + (p w).2))) := rfl
    rw [this]
    unfold am crs vec area
    dsimp only
    rcases hh with ⟨rfl, rfl, rfl⟩ | ⟨rfl, rfl, rfl⟩ | ⟨rfl, rfl, rfl⟩ <;> grind
  have own : ∀ x y z, (x = u ∧ y = v ∧ z = w) ∨ (x = v ∧ y = w ∧ z = u) ∨ (x = w ∧ y = u ∧ z = v) → 0 < area (p x) (p y) (p z) → GW p a b x y → T.Gl (q x) (q y) m6 V := fun x y z hh A g => by
    unfold T.Gl
    rw [aq, cq]
    rcases g with g | ⟨g, g'⟩
    · exact .inl (by omega)
    · refine .inr ⟨by omega, ?_⟩
      have e := dq x y z hh
      rw [g] at e
      have := mul_nn (Int.le_of_lt kp) g'
      omega
  have H6 : Net q S N := H.sm (k := 6) (by decide)
  have a1 : am p a b c a = area (p a) (p b) (p c) := by unfold am; rw [area_abb, area_rot2]; omega
  have a2 : am p a b b c = area (p a) (p b) (p c) := by unfold am; rw [area_aba, area_rot]; omega
  have n := (vne P).1
  have cp : 0 < crn p a b a b := by
    have e : crn p a b a b = far (p a) (p b) := by unfold crn crs vec nv far; dsimp only; grind
    rw [e]
    refine far_pos fun z => ?_
    have hh := h1.inS H
    exact n (H.inj a hh.1 b hh.2.1 z)
  have s := H6.germ3 h1 ht (q := m6) (v := V) ⟨by
    unfold T.Gl
    rw [aq, cq, am_self P]
    refine .inr ⟨rfl, ?_⟩
    have : k * 1 ≤ k * crn p a b a b := Int.mul_le_mul_of_nonneg_left (by omega) (Int.le_of_lt kp)
    have hk : k = ((D a b).natAbs : Int) + 1 := rfl
    omega, .inl (by rw [aq, a2]; omega), .inl (by rw [aq, a1]; omega)⟩ ⟨own u v w (.inl ⟨rfl, rfl, rfl⟩) R g1, own v w u (.inr (.inl ⟨rfl, rfl, rfl⟩)) (by rw [area_rot]; exact R) g2, own w u v (.inr (.inr ⟨rfl, rfl, rfl⟩)) (by rw [area_rot2]; exact R) g3⟩
  have z : Mm p h a b u v w = 0 := by
    have l0 : Mm p h a b a b c = 0 := by unfold Mm; rw [lam_a, lam_b]; rfl
    rcases s with ⟨rfl, rfl, rfl⟩ | ⟨rfl, rfl, rfl⟩ | ⟨rfl, rfl, rfl⟩
    · exact l0
    · rw [← mm_rot]; exact l0
    · rw [← mm_rot, ← mm_rot]; exact l0
  omega
end
end T
/-! the dict of third numbers while sides are turned over; wrong sides; the run of swaps -/
namespace T
local instance tb12 : Tb := ⟨[]⟩
section
variable {κ β : Type} [DecidableEq κ]
theorem dget_app (k k' : κ) (v : β) : ∀ l : List (κ × β), dget (l ++ [(k, v)]) k' = (dget l k').or (if k' = k then some v else none)
  | [] => by
    by_cases e : k = k'
    · rw [List.nil_append, dget_pos (p := (k, v)) e, if_pos e.symm]; rfl
    · rw [List.nil_append, dget_neg (p := (k, v)) e, if_neg (fun z => e z.symm)]; rfl
  | p :: r => by
    rw [List.cons_append]
    by_cases e : p.1 = k'
    · rw [dget_pos e, dget_pos e]; rfl
    · rw [dget_neg e, dget_neg e, dget_app k k' v r]
theorem dget_none {k : κ} : ∀ {l : List (κ × β)}, (∀ x ∈ l, x.1 ≠ k) → dget l k = none
  | [], _ => rfl
  | p :: r, h => by rw [dget_neg (h p (by simp)), dget_none fun x hx => h x (by simp [hx])]
theorem dget_map (k k' : κ) (v : β) : ∀ l : List (κ × β), dget (l.map fun kv => if kv.1 = k then (kv.1, v) else kv) k' = if k' = k then (if ∃ x ∈ l, x.1 = k then some v else none) else dget l k'
  | [] => by simp [dget]
  | p :: r => by
    rw [List.map_cons]
    by_cases e : p.1 = k
    · rw [if_pos e]
      by_cases e2 : p.1 = k'
      · rw [dget_pos (p := (p.1, v)) e2, if_pos (e2.symm.trans e), if_pos ⟨p, by simp, e⟩]
      · rw [dget_neg (p := (p.1, v)) e2, dget_map k k' v r, if_neg (fun z => e2 (e.trans z.symm)), if_neg (fun z => e2 (e.trans z.symm)), dget_neg e2]
    · rw [if_neg e]
      by_cases e2 : p.1 = k'
      · rw [dget_pos e2, if_neg (fun z => e (e2.trans z)), dget_pos e2]
      · rw [dget_neg e2, dget_map k k' v r, dget_neg e2]
        by_cases e3 : k' = k
        · rw [if_pos e3, if_pos e3]
          by_cases e4 : ∃ x ∈ r, x.1 = k
          · obtain ⟨x, hx, ex⟩ := e4
            rw [if_pos ⟨x, hx, ex⟩, if_pos ⟨x, by simp [hx], ex⟩]
          · rw [if_neg e4, if_neg]
            rintro ⟨x, hx, ex⟩
            rcases List.mem_cons.mp hx with rfl | hx
            · exact e ex
            · exact e4 ⟨x, hx, ex⟩
        · rw [if_neg e3, if_neg e3]
theorem dget_dput (d : List (κ × β)) (k k' : κ) (v : β) : dget (dput d k v) k' = if k' = k then some v else dget d k' := by
  unfold dput
  by_cases h : (d.any fun kv => decide (kv.1 = k)) = true
  · rw [if_pos h, dget_map]
    obtain ⟨x, hx, e⟩ := List.any_eq_true.mp h
    rw [if_pos (⟨x, hx, of_decide_eq_true e⟩ : ∃ x ∈ d, x.1 = k)]
  · rw [if_neg h, dget_app]
    by_cases e : k' = k
    · rw [if_pos e, if_pos e, e, dget_none fun x hx q => h (List.any_eq_true.mpr ⟨x, hx, decide_eq_true q⟩)]
      rfl
    · rw [if_neg e, if_neg e, Option.or_none]
theorem dget_ddrop (k k' : κ) : ∀ d : List (κ × β), dget (ddrop d k) k' = if k' = k then none else dget d k'
  | [] => by simp [dget, ddrop]
  | p :: r => by
    have ih := dget_ddrop k k' r
    unfold ddrop at ih ⊢
    rw [List.filter_cons]
    by_cases e : p.1 = k
    · rw [if_neg (by simp [e]), ih]
      by_cases e3 : k' = k
      · rw [if_pos e3, if_pos e3]
      · rw [if_neg e3, if_neg e3, dget_neg (fun z => e3 (z.symm.trans e))]
    · rw [if_pos (by simp [e])]
      by_cases e2 : p.1 = k'
      · rw [dget_pos e2, dget_pos e2, if_neg (fun z => e (e2.trans z))]
      · rw [dget_neg e2, dget_neg e2, ih]
theorem dput_nd {d : List (κ × β)} {k : κ} {v : β} (h : (d.map (·.1)).Nodup) : ((dput d k v).map (·.1)).Nodup := by
  rw [dput_keys]
  split
  · exact h
  · rename_i n
    exact List.nodup_append.mpr ⟨h, by simp, fun x hx y hy => by rw [List.mem_singleton.mp hy]; exact fun z => n (by rw [← z]; exact hx)⟩
theorem ddrop_nd {d : List (κ × β)} {k : κ} (h : (d.map (·.1)).Nodup) : ((ddrop d k).map (·.1)).Nodup := by
  unfold ddrop
  exact (List.filter_sublist.map _).nodup h
theorem ddrop_len (d : List (κ × β)) (k : κ) : (ddrop d k).length ≤ d.length := List.length_filter_le _ _
end
/-- d tells the third numbers of N's steps -/
def DM (d : List ((Int × Int) × Int)) (N : List Tri) : Prop := (d.map (·.1)).Nodup ∧ ∀ a b c, dget d (a, b) = some c ↔ Tr N a b c
def k6 (a b c d : Int) : List ((Int × Int) × Int) := [((a, d), c), ((d, c), a), ((c, a), d), ((d, b), c), ((b, c), d), ((c, d), b)]
def tov (D : List ((Int × Int) × Int)) (a b c d : Int) : List ((Int × Int) × Int) := dps (ddrop (ddrop D (a, b)) (b, a)) (k6 a b c d)
def t5 (a b c d : Int) : List (Int × Int) := [(a, d), (d, b), (b, c), (c, a), (c, d)]
def mn (e : Int × Int) : Int × Int := (if e.2 < e.1 then e.2 else e.1, if e.1 < e.2 then e.2 else e.1)
/-- a wrong side, its lesser number first -/
def WS (p : Int → Pt) (h : Int → Int) (N : List Tri) (e : Int × Int) : Prop := e.1 < e.2 ∧ ∃ c d, Tr N e.1 e.2 c ∧ Tr N e.2 e.1 d ∧ 0 < Lam p h e.1 e.2 c d
section
variable {p : Int → Pt} {h : Int → Int} {S : List Int} {N : List Tri} {a b c d x y z : Int} {D : List ((Int × Int) × Int)}
theorem DM.ents (H : Net p S N) : DM (ents N) N := by
  have nd : ((T.ents N).map (·.1)).Nodup := by rw [ents_keys]; exact H.nd
  exact ⟨nd, fun a b c => ⟨fun e => mem_ents.mp (dget_some e), fun e => dget_mem nd (mem_ents.mpr e)⟩⟩
theorem DM.keys (M : DM D N) (H : Net p S N) : (D.map (·.1)).Perm (stps N) := (List.perm_ext_iff_of_nodup M.1 H.nd).mpr fun e => by
  have k := dget_key (l := D) (k := e)
  constructor
  · intro he
    rw [decide_eq_true he] at k
    obtain ⟨c, hc⟩ := Option.isSome_iff_exists.mp k
    exact ((M.2 e.1 e.2 c).mp hc).stp.1
  · intro he
    obtain ⟨c, hc⟩ := Tr.of_step (a := e.1) (b := e.2) he
    have q : dget D e = some c := (M.2 e.1 e.2 c).mpr hc
    rw [q] at k
    exact of_decide_eq_true k.symm
theorem DM.len (M : DM D N) (H : Net p S N) : D.length = 3 * N.length := by
  have := (M.keys H).length_eq
  rw [List.length_map, stps_len] at this
  exact this
theorem turn_same (H : Net p S N) (h1 : Tr N a b c) (h2 : Tr N b a d) (nk : (x, y) ∉ (k6 a b c d).map (·.1)) (n1 : (x, y) ≠ (a, b)) (n2 : (x, y) ≠ (b, a)) : Tr (flp N a b c d) x y z ↔ Tr N x y z := by
  have nk' : (x, y) ∉ [(a, d), (d, c), (c, a), (d, b), (b, c), (c, d)] := nk
  simp only [List.mem_cons, List.not_mem_nil, or_false, not_or, Prod.mk.injEq] at nk'
  simp only [ne_eq, Prod.mk.injEq] at n1 n2
  obtain ⟨m1, m2, m3, m4, m5, m6⟩ := nk'
  rw [flp_Tr]
  constructor
  · rintro (r | r | r)
    · exfalso
      unfold Rots rot at r
      simp only [Tri.mk.injEq] at r
      rcases r with ⟨rfl, rfl, rfl⟩ | ⟨rfl, rfl, rfl⟩ | ⟨rfl, rfl, rfl⟩
      · exact m1 ⟨rfl, rfl⟩
      · exact m3 ⟨rfl, rfl⟩
      · exact m2 ⟨rfl, rfl⟩
    · exfalso
      unfold Rots rot at r
      simp only [Tri.mk.injEq] at r
      rcases r with ⟨rfl, rfl, rfl⟩ | ⟨rfl, rfl, rfl⟩ | ⟨rfl, rfl, rfl⟩
      · exact m4 ⟨rfl, rfl⟩
      · exact m6 ⟨rfl, rfl⟩
      · exact m5 ⟨rfl, rfl⟩
    · exact r.1
  · intro ht
    refine .inr (.inr ⟨ht, fun ⟨ha, hb⟩ => ?_⟩)
    rcases two_of H h1 h2 ht ha hb with s | s
    · rcases s with ⟨rfl, rfl, rfl⟩ | ⟨rfl, rfl, rfl⟩ | ⟨rfl, rfl, rfl⟩
      · exact n1 ⟨rfl, rfl⟩
      · exact m3 ⟨rfl, rfl⟩
      · exact m5 ⟨rfl, rfl⟩
    · rcases s with ⟨rfl, rfl, rfl⟩ | ⟨rfl, rfl, rfl⟩ | ⟨rfl, rfl, rfl⟩
      · exact n2 ⟨rfl, rfl⟩
      · exact m4 ⟨rfl, rfl⟩
      · exact m1 ⟨rfl, rfl⟩
theorem turn_gone (H : Net p S N) (h1 : Tr N a b c) (h2 : Tr N b a d) (k1 : 0 < area (p a) (p d) (p c)) : ¬ Tr (flp N a b c d) a b z ∧ ¬ Tr (flp N a b c d) b a z := by
  have n := vne (h1.pos H)
  have m := vne (h2.pos H)
  have k := vne k1
  constructor
  · rw [flp_Tr]
    rintro (r | r | r)
    · unfold Rots rot at r
      simp only [Tri.mk.injEq] at r
      rcases r with ⟨_, r, _⟩ | ⟨r, _, _⟩ | ⟨_, r, r'⟩
      · exact m.2.2 r
      · exact n.1 r
      · exact k.1 r.symm
    · unfold Rots rot at r
      simp only [Tri.mk.injEq] at r
      rcases r with ⟨r, _, _⟩ | ⟨r, _, _⟩ | ⟨_, r, _⟩
      · exact k.1 r.symm
      · exact m.2.2 r
      · exact n.1 r.symm
    · exact r.2 ⟨.inl rfl, .inr (.inl rfl)⟩
  · rw [flp_Tr]
    rintro (r | r | r)
    · unfold Rots rot at r
      simp only [Tri.mk.injEq] at r
      rcases r with ⟨r, _, _⟩ | ⟨_, _, r⟩ | ⟨_, r, _⟩
      · exact n.1 r
      · exact n.2.1 r.symm
      · exact m.2.2 r
    · unfold Rots rot at r
      simp only [Tri.mk.injEq] at r
      rcases r with ⟨r, _, _⟩ | ⟨r, _, _⟩ | ⟨_, _, r⟩
      · exact m.2.2 r
      · exact k.1 r.symm
      · exact n.2.2 r
    · exact r.2 ⟨.inr (.inl rfl), .inl rfl⟩
theorem DM.turn (H : Net p S N) (h1 : Tr N a b c) (h2 : Tr N b a d) (k1 : 0 < area (p a) (p d) (p c)) (k2 : 0 < area (p d) (p b) (p c)) (M : DM D N) : DM (tov D a b c d) (flp N a b c d) := by
  have H' := H.flp h1 h2 k1 k2
  refine ⟨dput_nd (dput_nd (dput_nd (dput_nd (dput_nd (dput_nd (ddrop_nd (ddrop_nd M.1))))))), fun x y z => ?_⟩
  have e : dget (tov D a b c d) (x, y) = if (x, y) = (c, d) then some b else if (x, y) = (b, c) then some d else if (x, y) = (d, b) then some c else if (x, y) = (c, a) then some d else if (x, y) = (d, c) then some a else if (x, y) = (a, d) then some c else
      if (x, y) = (b, a) then none else if (x, y) = (a, b) then none else dget D (x, y) := by
    show dget (dput (dput (dput (dput (dput (dput (ddrop (ddrop D (a, b)) (b, a)) (a, d) c) (d, c) a) (c, a) d) (d, b) c) (b, c) d) (c, d) b) (x, y) = _
    rw [dget_dput, dget_dput, dget_dput, dget_dput, dget_dput, dget_dput, dget_ddrop, dget_ddrop]
  rw [e]
  have fin : ∀ {v : Int}, Tr (flp N a b c d) x y v → (some v = some z ↔ Tr (flp N a b c d) x y z) := fun {v} t => ⟨fun e => by cases e; exact t, fun t' => by rw [H'.top1 t t']⟩
  have l := flp_l (N := N) (a := a) (b := b) (c := c) (d := d)
  have r := flp_r (N := N) (a := a) (b := b) (c := c) (d := d)
  by_cases q1 : (x, y) = (c, d)
  · rw [if_pos q1]; cases q1; exact fin r.rot.rot
  rw [if_neg q1]
  by_cases q2 : (x, y) = (b, c)
  · rw [if_pos q2]; cases q2; exact fin r.rot
  rw [if_neg q2]
  by_cases q3 : (x, y) = (d, b)
  · rw [if_pos q3]; cases q3; exact fin r
  rw [if_neg q3]
  by_cases q4 : (x, y) = (c, a)
  · rw [if_pos q4]; cases q4; exact fin l.rot.rot
  rw [if_neg q4]
  by_cases q5 : (x, y) = (d, c)
  · rw [if_pos q5]; cases q5; exact fin l.rot
  rw [if_neg q5]
  by_cases q6 : (x, y) = (a, d)
  · rw [if_pos q6]; cases q6; exact fin l
  rw [if_neg q6]
  by_cases q7 : (x, y) = (b, a)
  · rw [if_pos q7]; cases q7; exact ⟨fun e => (by cases e), fun t => absurd t (turn_gone H h1 h2 k1).2⟩
  rw [if_neg q7]
  by_cases q8 : (x, y) = (a, b)
  · rw [if_pos q8]; cases q8; exact ⟨fun e => (by cases e), fun t => absurd t (turn_gone H h1 h2 k1).1⟩
  rw [if_neg q8, M.2, turn_same H h1 h2 _ q8 q7]
  show (x, y) ∉ [(a, d), (d, c), (c, a), (d, b), (b, c), (c, d)]
  intro m
  simp only [List.mem_cons, List.not_mem_nil, or_false] at m
  rcases m with m | m | m | m | m | m
  · exact q6 m
  · exact q5 m
  · exact q4 m
  · exact q3 m
  · exact q2 m
  · exact q1 m
theorem mn_lt {e : Int × Int} (h : e.1 < e.2) : mn e = e := by unfold mn; rw [if_neg (by omega), if_pos h]
theorem mn_gt {e : Int × Int} (h : e.2 < e.1) : mn e = T.swp e := by unfold mn; rw [if_pos h, if_neg (by omega)]; rfl
/-- elsewhere nothing changes -/
theorem WS_same (H : Net p S N) (h1 : Tr N a b c) (h2 : Tr N b a d) {e : Int × Int} (he : e.1 < e.2) (n5 : ∀ t ∈ t5 a b c d, mn t ≠ e) (ns : mn (a, b) ≠ e) : WS p h (flp N a b c d) e ↔ WS p h N e := by
  have out : ∀ f : Int × Int, (f = e ∨ f = T.swp e) → f ∉ (k6 a b c d).map (·.1) ∧ f ≠ (a, b) ∧ f ≠ (b, a) := fun f hf => by
    have mf : mn f = e := by
      rcases hf with rfl | rfl
      · exact mn_lt he
      · exact mn_gt he
    have ms : ∀ g : Int × Int, mn (T.swp g) = mn g := fun g => by
      rcases Int.lt_trichotomy g.1 g.2 with k | k | k
      · rw [mn_lt k, mn_gt (e := T.swp g) k]; rfl
      · have : T.swp g = g := Prod.ext k.symm k
        rw [this]
      · rw [mn_gt k, mn_lt (e := T.swp g) k]
    have n : ∀ g ∈ t5 a b c d, f ≠ g ∧ f ≠ T.swp g := fun g hg => ⟨fun q => n5 g hg (by rw [← q]; exact mf), fun q => n5 g hg (by rw [← ms, ← q]; exact mf)⟩
    refine ⟨fun q => ?_, fun q => ns (by rw [← q]; exact mf), fun q => ns (by rw [← ms (a, b)]; show mn (b, a) = e; rw [← q]; exact mf)⟩
    have q : f ∈ [(a, d), (d, c), (c, a), (d, b), (b, c), (c, d)] := q
    simp only [List.mem_cons, List.not_mem_nil, or_false] at q
    rcases q with q | q | q | q | q | q
    · exact (n (a, d) (by simp [t5])).1 q
    · exact (n (c, d) (by simp [t5])).2 q
    · exact (n (c, a) (by simp [t5])).1 q
    · exact (n (d, b) (by simp [t5])).1 q
    · exact (n (b, c) (by simp [t5])).1 q
    · exact (n (c, d) (by simp [t5])).1 q
  obtain ⟨o1, o2, o3⟩ := out e (.inl rfl)
  obtain ⟨u1, u2, u3⟩ := out (T.swp e) (.inr rfl)
  unfold WS
  refine and_congr_right fun _ => ?_
  constructor
  · rintro ⟨c', d', t1, t2, t3⟩
    exact ⟨c', d', (turn_same H h1 h2 o1 o2 o3).mp t1, (turn_same (x := e.2) (y := e.1) H h1 h2 u1 u2 u3).mp t2, t3⟩
  · rintro ⟨c', d', t1, t2, t3⟩
    exact ⟨c', d', (turn_same H h1 h2 o1 o2 o3).mpr t1, (turn_same (x := e.2) (y := e.1) H h1 h2 u1 u2 u3).mpr t2, t3⟩
theorem WS_gone (H : Net p S N) (h1 : Tr N a b c) (h2 : Tr N b a d) (k1 : 0 < area (p a) (p d) (p c)) : ¬ WS p h (flp N a b c d) (a, b) := fun ⟨_, c', d', t1, _⟩ => (turn_gone H h1 h2 k1).1 t1
/-- every number's point is in bounds -/
def Bd (p : Int → Pt) (S : List Int) : Prop := ∀ i ∈ S, pb (p i) ∧ nb i
theorem lam_dec (B : Bd p S) (H : Net p S N) (h1 : Tr N a b c) (h2 : Tr N b a d) : (0 < rings (p a) (p b) (p c) (p d) ∨ rings (p a) (p b) (p c) (p d) = 0 ∧ min c d < min a b ↔ 0 < Lam p (hgt p) a b c d) ∧ Lam p (hgt p) a b c d ≠ 0 := by
  have s1 := h1.inS H
  have s2 := h2.inS H
  have l := lam_wrong (p := p) (B a s1.1).1 (B b s1.2.1).1 (B c s1.2.2).1 (B d s2.2.2).1 (B a s1.1).2 (B b s1.2.1).2 (B c s1.2.2).2 (B d s2.2.2).2 (h1.pos H) (h2.pos H)
  refine ⟨⟨l.1, fun q => ?_⟩, fun z => ?_⟩
  · by_cases w : 0 < rings (p a) (p b) (p c) (p d) ∨ rings (p a) (p b) (p c) (p d) = 0 ∧ min c d < min a b
    · exact w
    · have := l.2 w; omega
  · by_cases w : 0 < rings (p a) (p b) (p c) (p d) ∨ rings (p a) (p b) (p c) (p d) = 0 ∧ min c d < min a b
    · have := l.1 w; omega
    · have := l.2 w; omega
/-- a wrong side's points bulge -/
theorem lam_conv (B : Bd p S) (H : Net p S N) (h1 : Tr N a b c) (h2 : Tr N b a d) (L : 0 < Lam p (hgt p) a b c d) : 0 < area (p a) (p d) (p c) ∧ 0 < area (p d) (p b) (p c) := by
  have w := (lam_dec B H h1 h2).1.mpr L
  have r : 0 ≤ rings (p a) (p b) (p c) (p d) := by rcases w with w | w <;> omega
  exact ⟨conv_a (h1.pos H) (h2.pos H) r, conv_b (h1.pos H) (h2.pos H) r⟩
theorem loc_of (B : Bd p S) (H : Net p S N) (no : ∀ e, ¬ WS p (hgt p) N e) : Loc p (hgt p) N := fun a b c d h1 h2 => by
  have n := (lam_dec B H h1 h2).2
  have : ¬ 0 < Lam p (hgt p) a b c d := fun L => by
    rcases Int.lt_trichotomy a b with k | k | k
    · exact no (a, b) ⟨k, c, d, h1, h2, L⟩
    · exact (vne (h1.pos H)).1 k
    · exact no (b, a) ⟨k, d, c, h2, h1, by rw [lam_sw]; exact L⟩
  omega
/-- swaps of the least wrong side, until there is none -/
inductive Run (p : Int → Pt) (h : Int → Int) : List Tri → List (Int × Int) → List Tri → Prop
  | nil {N : List Tri} : (∀ e, ¬ WS p h N e) → Run p h N [] N
  | cons {N M : List Tri} {a b c d : Int} {sw : List (Int × Int)} : WS p h N (a, b) → (∀ e, WS p h N e → leP (a, b) e = true) → Tr N a b c → Tr N b a d → Run p h (flp N a b c d) sw M → Run p h N ((a, b) :: sw) M
open Classical in
noncomputable def wstep (p : Int → Pt) (h : Int → Int) (N : List Tri) (g : List (Int × Int)) (x : Int × Int) : List (Int × Int) := if WS p h N (mn x) ∧ mn x ∉ g then g ++ [mn x] else g
noncomputable def wof (p : Int → Pt) (h : Int → Int) (N : List Tri) (l : List (Int × Int)) : List (Int × Int) := l.foldl (wstep p h N) []
theorem mem_wof {l : List (Int × Int)} {e : Int × Int} : e ∈ wof p h N l ↔ WS p h N e ∧ ∃ x ∈ l, mn x = e := by
  have go : ∀ (l g : List (Int × Int)), e ∈ l.foldl (wstep p h N) g ↔ e ∈ g ∨ (WS p h N e ∧ ∃ x ∈ l, mn x = e) := by
    intro l
    induction l with
    | nil => intro g; simp
    | cons y r ih =>
      intro g
      rw [List.foldl_cons, ih]
      unfold wstep
      by_cases k : WS p h N (mn y) ∧ mn y ∉ g
      · rw [if_pos k, List.mem_append, List.mem_singleton]
        constructor
        · rintro ((q | q) | ⟨q, x, hx, ex⟩)
          · exact .inl q
          · rw [q]; exact .inr ⟨k.1, y, by simp, rfl⟩
          · exact .inr ⟨q, x, by simp [hx], ex⟩
        · rintro (q | ⟨q, x, hx, ex⟩)
          · exact .inl (.inl q)
          · rcases List.mem_cons.mp hx with rfl | hx
            · exact .inl (.inr ex.symm)
            · exact .inr ⟨q, x, hx, ex⟩
      · rw [if_neg k]
        constructor
        · rintro (q | ⟨q, x, hx, ex⟩)
          · exact .inl q
          · exact .inr ⟨q, x, by simp [hx], ex⟩
        · rintro (q | ⟨q, x, hx, ex⟩)
          · exact .inl q
          · rcases List.mem_cons.mp hx with rfl | hx
            · refine .inl (Classical.byContradiction fun z => k ⟨by rw [ex]; exact q, by rw [ex]; exact z⟩)
            · exact .inr ⟨q, x, hx, ex⟩
  have := go l []
  unfold wof
  rw [this]
  simp only [List.not_mem_nil, false_or]
theorem wof_len (l : List (Int × Int)) : (wof p h N l).length ≤ l.length := by
  have go : ∀ (l g : List (Int × Int)), (l.foldl (wstep p h N) g).length ≤ g.length + l.length := by
    intro l
    induction l with
    | nil => intro g; simp
    | cons y r ih =>
      intro g
      rw [List.foldl_cons, List.length_cons]
      refine Nat.le_trans (ih _) ?_
      unfold wstep
      split
      · rw [List.length_append, List.length_singleton]; omega
      · omega
  have := go l []
  rw [List.length_nil, Nat.zero_add] at this
  exact this
theorem minF_le : ∀ (bs : List (Int × Int)) (b : Int × Int), ∀ y ∈ b :: bs, leP (minF b bs) y = true
  | [], b, y, hy => by
    rw [List.mem_singleton.mp hy]
    show leP b b = true
    rw [leP_iff]; omega
  | x :: r, b, y, hy => by
    have e : minF b (x :: r) = minF (if Ordd.lt x b then x else b) r := rfl
    rw [e]
    have lt : ∀ u v : Int × Int, (Ordd.lt u v = true) ↔ ¬ leP v u = true := fun u v => by
      show decide _ = true ↔ _
      rw [decide_eq_true_eq, leP_iff]; omega
    have m := minF_le r (if Ordd.lt x b then x else b)
    rcases List.mem_cons.mp hy with rfl | hy
    · refine leP_trans _ _ _ (m _ (List.mem_cons_self ..)) ?_
      by_cases q : Ordd.lt x y = true
      · rw [if_pos q]
        have := (lt x y).mp q
        rw [leP_iff] at this ⊢
        omega
      · rw [if_neg q, leP_iff]; omega
    · rcases List.mem_cons.mp hy with rfl | hy
      · refine leP_trans _ _ _ (m _ (List.mem_cons_self ..)) ?_
        by_cases q : Ordd.lt y b = true
        · rw [if_pos q, leP_iff]; omega
        · rw [if_neg q]
          exact Classical.not_not.mp fun z => q ((lt y b).mpr z)
      · exact m y (List.mem_cons_of_mem _ hy)
end
end T
/-! near nets: there is one; moved, turned, turned over -/
namespace T
local instance tb13 : Tb := ⟨[]⟩
/-- a near net -/
structure Nr (p : Int → Pt) (S : List Int) (M : List Tri) : Prop where
  net : Net p S M
  loc : Loc p (hgt p) M
section
variable {p q : Int → Pt} {S : List Int} {N M : List Tri} {a b c d : Int}
theorem Net.nz (B : Bd p S) (H : Net p S N) {d e f v : Int} (t : Tr N d e f) (hv : v ∈ S) (n1 : v ≠ d) (n2 : v ≠ e) (n3 : v ≠ f) : Lam p (hgt p) d e f v ≠ 0 := by
  have s := t.inS H
  exact lam_nz (B d s.1).1 (B e s.2.1).1 (B f s.2.2).1 (B v hv).1 (B d s.1).2 (B e s.2.1).2 (B f s.2.2).2 (B v hv).2 (t.pos H) n1 n2 n3 (fun z => n1 (H.inj _ hv _ s.1 z)) (fun z => n2 (H.inj _ hv _ s.2.1 z)) (fun z => n3 (H.inj _ hv _ s.2.2 z))
theorem Nr.tr (B : Bd p S) (HM : Nr p S M) (HN : Nr p S N) (t : Tr M a b c) : Tr N a b c := by
  have s := t.inS HM.net
  exact HN.net.uniq HN.loc (fun d e f v t hv n1 n2 n3 => HN.net.nz B t hv n1 n2 n3) s.1 s.2.1 s.2.2 (t.pos HM.net) fun e he => HM.net.emp HM.loc t he
theorem Nr.uniq (B : Bd p S) (HM : Nr p S M) (HN : Nr p S N) : tld M = tld N := net_eq HM.net HN.net fun a b c => ⟨Nr.tr B HM HN, Nr.tr B HN HM⟩
theorem Nr.tld (H : Nr p S N) : Nr p S (T.tld N) := ⟨H.net.tld, fun a b c d h1 h2 => H.loc a b c d (Tr_tld.mp h1) (Tr_tld.mp h2)⟩
theorem Nr.iff (B : Bd p S) (H : Net p S N) : Loc p (hgt p) N ↔ ∀ a b c d, Tr N a b c → Tr N b a d → ¬ (0 < rings (p a) (p b) (p c) (p d) ∨ rings (p a) (p b) (p c) (p d) = 0 ∧ min c d < min a b) := by
  constructor
  · intro L a b c d h1 h2 w
    have := (lam_dec B H h1 h2).1.mp w
    have := L a b c d h1 h2
    omega
  · intro h a b c d h1 h2
    have l := lam_dec B H h1 h2
    have := h a b c d h1 h2
    rw [l.1] at this
    have := l.2
    omega
/-- distances stay; so do areas, or they change their signs -/
structure Iso (φ : Pt → Pt) (s : Int) : Prop where
  ar : ∀ a b c, area (φ a) (φ b) (φ c) = s * area a b c
  dt : ∀ a b x, dotp (φ a) (φ b) (φ x) = dotp a b x
theorem far_dot (a b : Pt) : far a b = dotp a a b := by unfold far dotp; grind
theorem Iso.inj {φ : Pt → Pt} {s : Int} (h : Iso φ s) {a b : Pt} (e : φ a = φ b) : a = b := by
  by_cases z : a = b
  · exact z
  · exfalso
    have := far_pos z
    rw [far_dot, ← h.dt, e] at this
    have k : dotp (φ b) (φ b) (φ b) = 0 := by unfold dotp; simp
    omega
theorem Iso.rings {φ : Pt → Pt} {s : Int} (h : Iso φ s) (a b c d : Pt) : rings (φ a) (φ b) (φ c) (φ d) = s * T.rings a b c d := by
  unfold T.rings
  rw [far_dot, far_dot, far_dot, far_dot, far_dot, far_dot, h.dt, h.dt, h.dt, h.ar, h.ar, h.ar]
  grind
theorem rings_fl (a b c d : Pt) : rings b a c d = - rings a b c d := by unfold rings far area; grind
theorem dotp_comm (a b x : Pt) : dotp a b x = dotp b a x := by unfold dotp; grind
theorem Nr.move {φ : Pt → Pt} (h : Iso φ 1) (hq : ∀ i ∈ S, q i = φ (p i)) (B : Bd p S) (B' : Bd q S) (H : Nr p S N) : Nr q S N := by
  have n := H.net
  have net : Net q S N := ⟨fun x hx y hy e => n.inj x hx y hy (h.inj (by rw [← hq x hx, ← hq y hy]; exact e)), fun t ht => by
    have s := (Tr.of ht).inS n
    rw [hq _ s.1, hq _ s.2.1, hq _ s.2.2, h.ar, Int.one_mul]
    exact n.pos t ht, n.nd, n.inS, fun e h1 h2 x hx => by
    have l := n.sup e h1 h2 x hx
    have s1 := n.inS e h1
    have s2 := n.in2 h1
    unfold Lft at l ⊢
    rw [hq _ s1, hq _ s2, hq _ hx, h.ar, h.dt, Int.one_mul]
    exact l, n.all⟩
  refine ⟨net, (Nr.iff B' net).mpr fun a b c d h1 h2 => ?_⟩
  have s1 := h1.inS n
  have s2 := h2.inS n
  rw [hq _ s1.1, hq _ s1.2.1, hq _ s1.2.2, hq _ s2.2.2, h.rings, Int.one_mul]
  exact (Nr.iff B n).mp H.loc a b c d h1 h2
def mir (t : Tri) : Tri := ⟨t.b, t.a, t.c⟩
theorem mem_stps_mir {e : Int × Int} : e ∈ stps (N.map mir) ↔ T.swp e ∈ stps N := by
  rw [mem_stps, mem_stps]
  have k : ∀ t : Tri, e ∈ stp (mir t) ↔ T.swp e ∈ stp t := fun t => by
    unfold stp mir T.swp
    simp only [List.mem_cons, List.not_mem_nil, or_false]
    obtain ⟨x, y⟩ := e
    simp only [Prod.mk.injEq]
    omega
  constructor
  · rintro ⟨t, ht, he⟩
    obtain ⟨u, hu, rfl⟩ := List.mem_map.mp ht
    exact ⟨u, hu, (k u).mp he⟩
  · rintro ⟨t, ht, he⟩
    exact ⟨mir t, List.mem_map.mpr ⟨t, ht, rfl⟩, (k t).mpr he⟩
theorem stps_mir : ∀ N : List Tri, (stps (N.map mir)).Perm ((stps N).map T.swp)
  | [] => .refl _
  | t :: r => by
    rw [List.map_cons, stps_cons, stps_cons, List.map_append]
    refine List.Perm.append ?_ (stps_mir r)
    show [(t.b, t.a), (t.a, t.c), (t.c, t.b)].Perm [(t.b, t.a), (t.c, t.b), (t.a, t.c)]
    exact (List.Perm.swap _ _ _).cons _
theorem Tr_mir : Tr (N.map mir) a b c ↔ Tr N b a c := by
  have k : ∀ x y z : Int, (⟨x, y, z⟩ : Tri) ∈ N.map mir ↔ (⟨y, x, z⟩ : Tri) ∈ N := fun x y z => by
    constructor
    · intro h
      obtain ⟨u, hu, e⟩ := List.mem_map.mp h
      unfold mir at e
      simp only [Tri.mk.injEq] at e
      obtain ⟨rfl, rfl, rfl⟩ := e
      exact hu
    · intro h
      exact List.mem_map.mpr ⟨_, h, rfl⟩
  unfold Tr
  rw [k, k, k]
  constructor
  · rintro (h | h | h)
    · exact .inl h
    · exact .inr (.inr h)
    · exact .inr (.inl h)
  · rintro (h | h | h)
    · exact .inl h
    · exact .inr (.inr h)
    · exact .inr (.inl h)
theorem Nr.over {φ : Pt → Pt} (h : Iso φ (-1)) (hq : ∀ i ∈ S, q i = φ (p i)) (B : Bd p S) (B' : Bd q S) (H : Nr p S N) : Nr q S (N.map mir) := by
  have n := H.net
  have net : Net q S (N.map mir) := ⟨fun x hx y hy e => n.inj x hx y hy (h.inj (by rw [← hq x hx, ← hq y hy]; exact e)), fun t ht => by
    obtain ⟨u, hu, rfl⟩ := List.mem_map.mp ht
    have s := (Tr.of hu).inS n
    have P := n.pos u hu
    show 0 < area (q u.b) (q u.a) (q u.c)
    rw [hq _ s.1, hq _ s.2.1, hq _ s.2.2, h.ar, area_flip]
    omega, by
    refine (stps_mir N).nodup_iff.mpr ?_
    exact List.Pairwise.map _ (fun x y hxy e => hxy (by rw [← swp_swp x, e, swp_swp])) n.nd, fun e he => n.in2 (mem_stps_mir.mp he), fun e h1 h2 x hx => by
    have h1' := mem_stps_mir.mp h1
    have h2' : e ∉ stps N := fun z => h2 (mem_stps_mir.mpr z)
    have l := n.sup (T.swp e) h1' h2' x hx
    have s1 : e.2 ∈ S := n.inS _ h1'
    have s2 : e.1 ∈ S := n.in2 h1'
    have l : Lft (p e.2) (p e.1) (p x) := l
    unfold Lft at l ⊢
    rw [hq _ s1, hq _ s2, hq _ hx, h.ar, h.dt, dotp_comm, area_flip]
    rw [show -1 * -area (p e.2) (p e.1) (p x) = area (p e.2) (p e.1) (p x) by omega]
    exact l, fun x hx => by
    obtain ⟨e, he, ex⟩ := n.all x hx
    obtain ⟨z, hz⟩ := Tr.of_step (a := e.1) (b := e.2) he
    exact ⟨(e.1, z), mem_stps_mir.mpr hz.stp.2.2, ex⟩⟩
  refine ⟨net, (Nr.iff B' net).mpr fun a b c d h1 h2 => ?_⟩
  have h1 := Tr_mir.mp h1
  have h2 := Tr_mir.mp h2
  have s1 := h1.inS n
  have s2 := h2.inS n
  rw [hq _ s1.1, hq _ s1.2.1, hq _ s1.2.2, hq _ s2.2.2, h.rings, rings_fl, show -1 * -rings (p b) (p a) (p c) (p d) = rings (p b) (p a) (p c) (p d) by omega, show min a b = min b a by omega]
  exact (Nr.iff B n).mp H.loc b a c d h1 h2
theorem RowP.iso {φ : Pt → Pt} {s : Int} (h : Iso φ s) {A : List Pt} (r : RowP A) : RowP (A.map φ) := fun x hx y hy z hz => by
  obtain ⟨x, hx', rfl⟩ := List.mem_map.mp hx
  obtain ⟨y, hy', rfl⟩ := List.mem_map.mp hy
  obtain ⟨z, hz', rfl⟩ := List.mem_map.mp hz
  rw [h.ar, r x hx' y hy' z hz', Int.mul_zero]
theorem RowP.osi {φ : Pt → Pt} {s : Int} (h : Iso φ s) (hs : s ≠ 0) {A : List Pt} (r : RowP (A.map φ)) : RowP A := fun x hx y hy z hz => by
  have := r (φ x) (List.mem_map.mpr ⟨x, hx, rfl⟩) (φ y) (List.mem_map.mpr ⟨y, hy, rfl⟩) (φ z) (List.mem_map.mpr ⟨z, hz, rfl⟩)
  rw [h.ar] at this
  rcases Int.mul_eq_zero.mp this with e | e
  · exact absurd e hs
  · exact e
theorem Net.norow {A : List Pt} {N : List Tri} (H : Net (ptAt A) (rngL (A.length : Int)) N) (hn : A ≠ []) (r : RowP A) : False := by
  obtain ⟨t, ht⟩ := List.exists_mem_of_ne_nil _ (H.ne (rng_ne hn))
  have P := H.pos t ht
  have s := (Tr.of ht).inS H
  have m1 := mem_rngL.mp s.1
  have m2 := mem_rngL.mp s.2.1
  have m3 := mem_rngL.mp s.2.2
  have := r _ (ptAt_mem m1.1 m1.2) _ (ptAt_mem m2.1 m2.2) _ (ptAt_mem m3.1 m3.2)
  omega
theorem ptAt_mapS {φ : Pt → Pt} {A : List Pt} {i : Int} (hi : i ∈ rngL (A.length : Int)) : ptAt (A.map φ) i = φ (ptAt A i) := by
  have := mem_rngL.mp hi
  unfold ptAt
  have h : i.toNat < A.length := by omega
  simp [h]
end
end T
/-! who stands round a point; walks -/
namespace T
local instance tb15 : Tb := ⟨[]⟩
theorem nodup_lenT {α : Type} [DecidableEq α] : ∀ {l m : List α}, l.Nodup → (∀ x ∈ l, x ∈ m) → l.length ≤ m.length
  | [], m, _, _ => Nat.zero_le _
  | a :: r, m, nd, h => by
    have nd := List.nodup_cons.mp nd
    have ha := h a (by simp)
    have := nodup_lenT (l := r) (m := m.erase a) nd.2 fun x hx => (List.mem_erase_of_ne (fun z => nd.1 (by rw [← z]; exact hx))).mpr (h x (by simp [hx]))
    rw [List.length_erase_of_mem ha] at this
    have := List.length_pos_of_mem ha
    rw [List.length_cons]
    omega
/-- d tells of each number round s the next one -/
def LM (d : List (Int × Int)) (N : List Tri) (s : Int) : Prop := (d.map (·.1)).Nodup ∧ ∀ x y, dget d x = some y ↔ Tr N s x y
def les (s : Int) (t : Tri) : List (Int × Int) := if t.a = s then [(t.b, t.c)] else if t.b = s then [(t.c, t.a)] else if t.c = s then [(t.a, t.b)] else []
def lat (s : Int) (N : List Tri) : List (Int × Int) := N.flatMap (les s)
section
variable {p : Int → Pt} {S : List Int} {N : List Tri} {s x y z : Int}
theorem mem_les {t : Tri} (hd : dst t) : (x, y) ∈ les s t ↔ t = ⟨s, x, y⟩ ∨ t = ⟨x, y, s⟩ ∨ t = ⟨y, s, x⟩ := by
  obtain ⟨a, b, c⟩ := t
  obtain ⟨h1, h2, h3⟩ := hd
  dsimp only at h1 h2 h3
  unfold les
  dsimp only
  simp only [Tri.mk.injEq]
  by_cases e1 : a = s
  · rw [if_pos e1]
    simp only [List.mem_singleton, Prod.mk.injEq]
    omega
  · rw [if_neg e1]
    by_cases e2 : b = s
    · rw [if_pos e2]
      simp only [List.mem_singleton, Prod.mk.injEq]
      omega
    · rw [if_neg e2]
      by_cases e3 : c = s
      · rw [if_pos e3]
        simp only [List.mem_singleton, Prod.mk.injEq]
        omega
      · rw [if_neg e3]
        simp only [List.not_mem_nil, false_iff]
        omega
theorem mem_lat (H : Net p S N) : (x, y) ∈ lat s N ↔ Tr N s x y := by
  unfold lat
  rw [List.mem_flatMap]
  constructor
  · rintro ⟨t, ht, h⟩
    rcases (mem_les (H.dst ht)).mp h with rfl | rfl | rfl
    · exact .inl ht
    · exact .inr (.inl ht)
    · exact .inr (.inr ht)
  · rintro (h | h | h)
    · exact ⟨_, h, (mem_les (H.dst h)).mpr (.inl rfl)⟩
    · exact ⟨_, h, (mem_les (H.dst h)).mpr (.inr (.inl rfl))⟩
    · exact ⟨_, h, (mem_les (H.dst h)).mpr (.inr (.inr rfl))⟩
theorem lat_keys : ∀ {N : List Tri}, (∀ t ∈ N, dst t) → (lat s N).map (·.1) = ((stps N).filter fun e => decide (e.1 = s)).map (·.2)
  | [], _ => rfl
  | t :: r, h => by
    have ih := lat_keys (N := r) fun u hu => h u (by simp [hu])
    unfold lat at ih ⊢
    rw [List.flatMap_cons, List.map_append, ih, stps_cons, List.filter_append, List.map_append]
    congr 1
    obtain ⟨h1, h2, h3⟩ := h t (by simp)
    unfold les stp
    by_cases e1 : t.a = s
    · have e2 : ¬ t.b = s := fun z => h1 (e1.trans z.symm)
      have e3 : ¬ t.c = s := fun z => h3 (z.trans e1.symm)
      simp [e1, e2, e3]
    · by_cases e2 : t.b = s
      · have e3 : ¬ t.c = s := fun z => h2 (e2.trans z.symm)
        simp [e1, e2, e3]
      · by_cases e3 : t.c = s
        · simp [e1, e2, e3]
        · simp [e1, e2, e3]
theorem lat_nd (H : Net p S N) : ((lat s N).map (·.1)).Nodup := by
  rw [lat_keys fun t ht => H.dst ht]
  have nd := H.nd.filter (fun e => decide (e.1 = s))
  have go : ∀ l : List (Int × Int), l.Nodup → (∀ e ∈ l, e.1 = s) → (l.map (·.2)).Nodup := fun l => by
    induction l with
    | nil => intro _ _; exact List.nodup_nil
    | cons e r ih =>
      intro nd h
      have n := List.nodup_cons.mp nd
      rw [List.map_cons]
      refine List.nodup_cons.mpr ⟨fun q => ?_, ih n.2 fun f hf => h f (by simp [hf])⟩
      obtain ⟨f, hf, ef⟩ := List.mem_map.mp q
      have : f = e := Prod.ext ((h f (by simp [hf])).trans (h e (by simp)).symm) ef
      exact n.1 (by rw [← this]; exact hf)
  exact go _ nd fun e he => of_decide_eq_true (List.mem_filter.mp he).2
theorem LM.lat (H : Net p S N) : LM (lat s N) N s := ⟨lat_nd H, fun x y => ⟨fun h => (mem_lat H).mp (dget_some h), fun h => dget_mem (lat_nd H) ((mem_lat H).mpr h)⟩⟩
/-- from a point at most one step runs along the edge -/
theorem one_out (H : Net p S N) (h1 : (s, x) ∈ stps N) (n1 : (x, s) ∉ stps N) (h2 : (s, y) ∈ stps N) (n2 : (y, s) ∉ stps N) : x = y := by
  have sx := H.in2 h1
  have sy := H.in2 h2
  have l1 := H.sup _ h1 n1 y sy
  have l2 := H.sup _ h2 n2 x sx
  obtain ⟨w, hw⟩ := Tr.of_step h1
  have P := hw.pos H
  have sw := (hw.inS H).2.2
  have l3 := H.sup _ h2 n2 w sw
  refine H.inj x sx y sy ?_
  unfold Lft at l1 l2 l3
  dsimp only at l1 l2 l3 P
  have a0 : area (p s) (p x) (p y) = 0 := by
    have := area_sw (p s) (p x) (p y)
    omega
  have d1 := l1.2 a0
  have d2 := l2.2 (by have := area_sw (p s) (p x) (p y); omega)
  have g3 := l3.1
  have fp : 0 < far (p s) (p y) := far_pos fun z => step_ne H.pos h2 (H.inj _ (H.inS _ h2) _ sy z)
  generalize p s = A at *
  generalize p x = B at *
  generalize p y = C at *
  generalize p w = D at *
  obtain ⟨a1, a2⟩ := A
  obtain ⟨b1, b2⟩ := B
  obtain ⟨c1, c2⟩ := C
  obtain ⟨e1, e2⟩ := D
  unfold area at a0 P g3
  unfold dotp at d1 d2
  unfold far at fp
  dsimp only at *
  -- u = B - A, v = C - A; u x v = 0; v.v >= u.v, u.u >= u.v
  obtain ⟨u1, hu1⟩ : ∃ u, u = b1 - a1 := ⟨_, rfl⟩
  obtain ⟨u2, hu2⟩ : ∃ u, u = b2 - a2 := ⟨_, rfl⟩
  obtain ⟨v1, hv1⟩ : ∃ u, u = c1 - a1 := ⟨_, rfl⟩
  obtain ⟨v2, hv2⟩ : ∃ u, u = c2 - a2 := ⟨_, rfl⟩
  obtain ⟨w1, hw1⟩ : ∃ u, u = e1 - a1 := ⟨_, rfl⟩
  obtain ⟨w2, hw2⟩ : ∃ u, u = e2 - a2 := ⟨_, rfl⟩
  rw [← hu1, ← hu2, ← hv1, ← hv2] at a0
  rw [← hu1, ← hu2, ← hw1, ← hw2] at P
  rw [← hv1, ← hv2, ← hw1, ← hw2] at g3
  have q1 : (a1 - c1) * (b1 - c1) + (a2 - c2) * (b2 - c2) = (v1 * v1 + v2 * v2) - (u1 * v1 + u2 * v2) := by subst hu1 hu2 hv1 hv2; grind
  have q2 : (a1 - b1) * (c1 - b1) + (a2 - b2) * (c2 - b2) = (u1 * u1 + u2 * u2) - (u1 * v1 + u2 * v2) := by subst hu1 hu2 hv1 hv2; grind
  have vv : 0 < v1 * v1 + v2 * v2 := by
    have : (a1 - c1) ^ 2 + (a2 - c2) ^ 2 = v1 * v1 + v2 * v2 := by subst hv1 hv2; grind
    first
      | (rw [this] at fp; exact fp)
      | (have t2 : (a1 - c1) * (a1 - c1) + (a2 - c2) * (a2 - c2) = v1 * v1 + v2 * v2 := by subst hv1 hv2; grind
         rw [t2] at fp; exact fp)
  rw [q1] at d1
  rw [q2] at d2
  have uu : 0 < u1 * u1 + u2 * u2 := by
    have n1 := sq_nn u1
    have n2 := sq_nn u2
    by_cases z : u1 * u1 + u2 * u2 = 0
    · exfalso
      have z1 : u1 = 0 := by
        have : u1 * u1 = 0 := by omega
        rcases Int.mul_eq_zero.mp this with h | h <;> exact h
      have z2 : u2 = 0 := by
        have : u2 * u2 = 0 := by omega
        rcases Int.mul_eq_zero.mp this with h | h <;> exact h
      rw [z1, z2] at P
      omega
    · omega
  -- (u.v) (u x w) = (u.u) (v x w), as u x v = 0
  have e1 : (u1 * v1 + u2 * v2) * (u1 * w2 - u2 * w1) = (u1 * u1 + u2 * u2) * (v1 * w2 - v2 * w1) := by
    have : (u1 * v1 + u2 * v2) * (u1 * w2 - u2 * w1) - (u1 * u1 + u2 * u2) * (v1 * w2 - v2 * w1) = -(u1 * v2 - u2 * v1) * (u1 * w1 + u2 * w2) := by grind
    rw [a0] at this
    simp at this
    omega
  have uv : 0 ≤ u1 * v1 + u2 * v2 := by
    have : 0 ≤ (u1 * w2 - u2 * w1) * (u1 * v1 + u2 * v2) := by rw [Int.mul_comm, e1]; exact mul_nn (Int.le_of_lt uu) g3
    exact nonneg_of_mul P this
  -- (u.v)^2 = (u.u)(v.v)
  have e2 : (u1 * v1 + u2 * v2) * (u1 * v1 + u2 * v2) = (u1 * u1 + u2 * u2) * (v1 * v1 + v2 * v2) := by
    have : (u1 * u1 + u2 * u2) * (v1 * v1 + v2 * v2) - (u1 * v1 + u2 * v2) * (u1 * v1 + u2 * v2) = (u1 * v2 - u2 * v1) * (u1 * v2 - u2 * v1) := by grind
    rw [a0] at this
    simp at this
    omega
  -- so u.v = u.u = v.v, |u - v|^2 = 0
  have hd : (u1 - v1) * (u1 - v1) + (u2 - v2) * (u2 - v2) = (u1 * u1 + u2 * u2) + (v1 * v1 + v2 * v2) - 2 * (u1 * v1 + u2 * v2) := by grind
  have eq1 : (u1 * u1 + u2 * u2) = (u1 * v1 + u2 * v2) := by
    generalize u1 * u1 + u2 * u2 = U at *
    generalize v1 * v1 + v2 * v2 = V' at *
    generalize u1 * v1 + u2 * v2 = W at *
    by_cases z : U = W
    · exact z
    · exfalso
      have h1 : W + 1 ≤ U := by omega
      have h2 : W ≤ V' := by omega
      have h3 : (W + 1) * W ≤ U * V' := Int.mul_le_mul h1 h2 uv (by omega)
      rw [← e2, Int.add_mul, Int.one_mul] at h3
      have w0 : W = 0 := by omega
      rw [w0] at e2
      have v0 : V' = 0 := by
        have : U * V' = 0 := by omega
        rcases Int.mul_eq_zero.mp this with h | h <;> omega
      -- v = 0 then: C = A
      omega
  have eq2 : (v1 * v1 + v2 * v2) = (u1 * v1 + u2 * v2) := by
    rw [← eq1] at e2 ⊢
    exact (Int.eq_of_mul_eq_mul_left (by omega) e2).symm
  have n1 := sq_nn (u1 - v1)
  have n2 := sq_nn (u2 - v2)
  have z1 : u1 - v1 = 0 := by
    have : (u1 - v1) * (u1 - v1) = 0 := by omega
    rcases Int.mul_eq_zero.mp this with h | h <;> exact h
  have z2 : u2 - v2 = 0 := by
    have : (u2 - v2) * (u2 - v2) = 0 := by omega
    rcases Int.mul_eq_zero.mp this with h | h <;> exact h
  exact Prod.ext (by show b1 = c1; omega) (by show b2 = c2; omega)
end
/-- two loops that follow F from a start on, each with its own test for the end -/
theorem chain_loops {S : List Int} {F : Int → Option Int} (inj : ∀ x y z, F x = some z → F y = some z → x = y) (inS : ∀ x y, F x = some y → y ∈ S) {c1 c2 : List Int → Option Bool} {f1 f2 : List Int → Option (Out (List Int) (List Int))}
    (hc1 : ∀ g l h, g.getLast? = some l → g.head? = some h → c1 g = some (match F l with | none => false | some y => !decide (y = h)))
    (hc2 : ∀ g l, g.getLast? = some l → c2 g = some (match F l with | none => false | some y => !decide (y ∈ g)))
    (hf1 : ∀ g l y, g.length ≤ 1000 → g.getLast? = some l → F l = some y → f1 g = some (.go (g ++ [y]))) (hf2 : ∀ g l y, g.length ≤ 1000 → g.getLast? = some l → F l = some y → f2 g = some (.go (g ++ [y]))) (hS : S.length ≤ 1000) :
    ∀ (n : Nat) (g : List Int), g ≠ [] → g.Nodup → (∀ x ∈ g, x ∈ S) → (∀ (i : Nat) x y, g[i]? = some x → g[i + 1]? = some y → F x = some y) → S.length < n + g.length →
      ∃ R, loopN c1 f1 n g = some (.go R) ∧ loopN c2 f2 n g = some (.go R) ∧ R.Nodup ∧ (∀ x ∈ R, x ∈ S) ∧ R ≠ [] ∧ (∀ (i : Nat) x y, R[i]? = some x → R[i + 1]? = some y → F x = some y) ∧ R.head? = g.head? ∧ ∃ l, R.getLast? = some l ∧ (F l = none ∨ F l = R.head?)
  | 0, g, _, nd, hg, _, hk => by
    exfalso
    have := nodup_lenT nd hg
    omega
  | n + 1, g, ne, nd, hg, ch, hk => by
    have gl : g.length ≤ S.length := nodup_lenT nd hg
    obtain ⟨l, hl⟩ : ∃ l, g.getLast? = some l := ⟨_, List.getLast?_eq_some_getLast ne⟩
    obtain ⟨h, hh⟩ : ∃ h, g.head? = some h := ⟨_, List.head?_eq_some_head ne⟩
    have k1 := hc1 g l h hl hh
    have k2 := hc2 g l hl
    have stop : c1 g = some false → c2 g = some false → (F l = none ∨ F l = some h) → ∃ R, loopN c1 f1 (n + 1) g = some (.go R) ∧ loopN c2 f2 (n + 1) g = some (.go R) ∧ R.Nodup ∧ (∀ x ∈ R, x ∈ S) ∧ R ≠ [] ∧ (∀ (i : Nat) x y, R[i]? = some x → R[i + 1]? = some y → F x = some y) ∧ R.head? = g.head? ∧ ∃ l, R.getLast? = some l ∧ (F l = none ∨ F l = R.head?) := fun e1 e2 e3 => by
      refine ⟨g, ?_, ?_, nd, hg, ne, ch, rfl, l, hl, by rw [hh]; exact e3⟩
      · show (c1 g).bind _ = _
        rw [e1]
        rfl
      · show (c2 g).bind _ = _
        rw [e2]
        rfl
    cases q : F l with
    | none =>
      rw [q] at k1 k2
      exact stop k1 k2 (.inl q)
    | some y =>
      rw [q] at k1 k2
      dsimp only at k1 k2
      have l0 : g[g.length - 1]? = some l := by rw [← hl, List.getLast?_eq_getElem?]
      have h0 : g[0]? = some h := by rw [← hh, List.head?_eq_getElem?]
      have gp := List.length_pos_iff.mpr ne
      by_cases e : y = h
      · rw [decide_eq_true e] at k1
        have m : y ∈ g := by rw [e]; exact List.mem_of_getElem? h0
        rw [decide_eq_true m] at k2
        exact stop k1 k2 (.inr (by rw [q, e]))
      · have m : y ∉ g := fun m => by
          obtain ⟨i, hi, ei⟩ := List.mem_iff_getElem.mp m
          cases i with
          | zero =>
            rw [List.getElem?_eq_getElem (by omega)] at h0
            exact e (ei.symm.trans (Option.some.inj h0))
          | succ j =>
            have c := ch j (g[j]'(by omega)) y (List.getElem?_eq_getElem _) (by rw [List.getElem?_eq_getElem hi, ei])
            have ll := inj _ _ _ q c
            rw [List.getElem?_eq_getElem (by omega)] at l0
            have := (List.getElem_inj nd).mp ((Option.some.inj l0).trans ll)
            omega
        rw [decide_eq_false e] at k1
        rw [decide_eq_false m] at k2
        obtain ⟨R, r1, r2, n3, s3, e3, c3, hd3, l3⟩ := chain_loops inj inS hc1 hc2 hf1 hf2 hS n (g ++ [y]) (by simp) (List.nodup_append.mpr ⟨nd, by simp, fun a ha b hb => by rw [List.mem_singleton.mp hb]; exact fun z => m (by rw [← z]; exact ha)⟩)
          (fun x hx => by
            rcases List.mem_append.mp hx with hx | hx
            · exact hg x hx
            · rw [List.mem_singleton.mp hx]; exact inS _ _ q)
          (fun i a b ha hb => by
            rcases Nat.lt_trichotomy (i + 1) g.length with w | w | w
            · rw [List.getElem?_append_left (by omega)] at ha hb
              exact ch i a b ha hb
            · rw [List.getElem?_append_left (by omega)] at ha
              rw [List.getElem?_append_right (by omega), w, Nat.sub_self] at hb
              have : g.length - 1 = i := by omega
              rw [this] at l0
              rw [l0] at ha
              cases ha
              cases hb
              exact q
            · rw [List.getElem?_eq_none (by rw [List.length_append, List.length_singleton]; omega)] at hb
              cases hb)
          (by rw [List.length_append, List.length_singleton]; omega)
        refine ⟨R, ?_, ?_, n3, s3, e3, c3, by rw [hd3]; cases g with | nil => exact absurd rfl ne | cons a r => rfl, l3⟩
        · show (c1 g).bind _ = _
          rw [k1]
          rw [bind_s, if_pos (show (!false) = true from rfl), hf1 g l y (by omega) hl q]
          exact r1
        · show (c2 g).bind _ = _
          rw [k2]
          rw [bind_s, if_pos (show (!false) = true from rfl), hf2 g l y (by omega) hl q]
          exact r2
/-- two walks, the one for ever, the other so many times -/
theorem walk_loops {S : List Int} {f : Int → Int} {nx : Int → Option Int} (hn : ∀ x y, x ∈ S → nx x = some y → y ∈ S ∧ f y < f x) {c1 : List Int → Option Bool} {f1 : List Int → Option (Out (List Int) (List Int))} {f2 : Int → List Int → Option (Out (List Int) (List Int))}
    (hc1 : ∀ g, c1 g = some true) (h1 : ∀ g l, g.length ≤ 1000 → l ∈ S → g.getLast? = some l → f1 g = match nx l with | none => some (.ret g) | some y => some (.go (g ++ [y]))) (h2 : ∀ i g l, g.length ≤ 1000 → l ∈ S → g.getLast? = some l → f2 i g = match nx l with | none => some (.ret g) | some y => some (.go (g ++ [y]))) (hS : S.length ≤ 1000) :
    ∀ (xs : List Int) (g : List Int) (l : Int), g.getLast? = some l → g.Nodup → (∀ x ∈ g, x ∈ S ∧ f l ≤ f x) → (∀ (i : Nat) x y, g[i]? = some x → g[i + 1]? = some y → nx x = some y) → S.length < xs.length + g.length → ∃ R, loopN c1 f1 xs.length g = some (.ret R) ∧ loopL f2 xs g = some (.ret R) ∧ (∀ x ∈ R, x ∈ S) ∧ R.length ≤ S.length ∧ R.head? = g.head? ∧ (∀ (i : Nat) x y, R[i]? = some x → R[i + 1]? = some y → nx x = some y) ∧ ∃ l, R.getLast? = some l ∧ nx l = none
  | [], g, l, hl, nd, hg, ch, hk => by
    exfalso
    have := nodup_lenT nd fun x hx => (hg x hx).1
    rw [List.length_nil] at hk
    omega
  | x :: xs, g, l, hl, nd, hg, ch, hk => by
    have gl : g.length ≤ S.length := nodup_lenT nd fun x hx => (hg x hx).1
    have lm : l ∈ g := by
      rw [List.getLast?_eq_getElem?] at hl
      exact List.mem_of_getElem? hl
    have k1 := h1 g l (by omega) (hg l lm).1 hl
    have k2 := h2 x g l (by omega) (hg l lm).1 hl
    cases q : nx l with
    | none =>
      rw [q] at k1 k2
      refine ⟨g, ?_, ?_, fun x hx => (hg x hx).1, gl, rfl, ch, l, hl, q⟩
      · show (c1 g).bind _ = _
        rw [hc1]
        rw [bind_s, if_pos rfl, k1]
        rfl
      · show (f2 x g).bind _ = _
        rw [k2]
        rfl
    | some y =>
      rw [q] at k1 k2
      obtain ⟨yS, yf⟩ := hn l y (hg l lm).1 q
      have m : y ∉ g := fun m => by
        have := (hg y m).2
        omega
      have ne : g ≠ [] := fun z => by rw [z] at lm; cases lm
      have l0 : g[g.length - 1]? = some l := by rw [← hl, List.getLast?_eq_getElem?]
      have gp := List.length_pos_iff.mpr ne
      obtain ⟨R, r1, r2, r3, r4, r5, r6⟩ := walk_loops hn hc1 h1 h2 hS xs (g ++ [y]) y (by simp) (List.nodup_append.mpr ⟨nd, by simp, fun a ha b hb => by rw [List.mem_singleton.mp hb]; exact fun z => m (by rw [← z]; exact ha)⟩)
        (fun a ha => by
          rcases List.mem_append.mp ha with ha | ha
          · have := hg a ha
            exact ⟨this.1, by omega⟩
          · rw [List.mem_singleton.mp ha]; exact ⟨yS, Int.le_refl _⟩)
        (fun i a b ha hb => by
          rcases Nat.lt_trichotomy (i + 1) g.length with w | w | w
          · rw [List.getElem?_append_left (by omega)] at ha hb
            exact ch i a b ha hb
          · rw [List.getElem?_append_left (by omega)] at ha
            rw [List.getElem?_append_right (by omega), w, Nat.sub_self] at hb
            have : g.length - 1 = i := by omega
            rw [this] at l0
            rw [l0] at ha
            cases ha
            cases hb
            exact q
          · rw [List.getElem?_eq_none (by rw [List.length_append, List.length_singleton]; omega)] at hb
            cases hb)
        (by rw [List.length_cons] at hk; rw [List.length_append, List.length_singleton]; omega)
      refine ⟨R, ?_, ?_, r3, r4, by rw [r5]; cases g with | nil => exact absurd rfl ne | cons a r => rfl, r6⟩
      · show (c1 g).bind _ = _
        rw [hc1]
        rw [bind_s, if_pos rfl, k1]
        exact r1
      · show (f2 x g).bind _ = _
        rw [k2]
        exact r2
/-- the best of some, one behind another -/
theorem best_fold {f : Int → Int} (s : Int) : ∀ (l d : List Int) (b : Int), (d ++ l).Pairwise (fun x y => x ≤ y) → f b ≤ f s → (b = s ∨ b ∈ d ∧ f b < f s ∧ ∀ x ∈ d, f x = f b → b ≤ x) → (∀ x ∈ d, f b ≤ f x) →
    (let r := l.foldl (fun b x => if f x < f b then x else b) b
     f r ≤ f s ∧ (r = s ∨ r ∈ d ++ l ∧ f r < f s ∧ ∀ x ∈ d ++ l, f x = f r → r ≤ x) ∧ ∀ x ∈ d ++ l, f r ≤ f x)
  | [], d, b, pw, h1, h2, h3 => by
    rw [List.append_nil]
    exact ⟨h1, h2, h3⟩
  | x :: l, d, b, pw, h1, h2, h3 => by
    have e : d ++ x :: l = (d ++ [x]) ++ l := by simp
    rw [e] at pw ⊢
    rw [List.foldl_cons]
    have pd := (List.pairwise_append.mp (List.pairwise_append.mp pw).1).2.2
    have dx : ∀ y ∈ d, y ≤ x := fun y hy => pd y hy x (by simp)
    by_cases k : f x < f b
    · rw [if_pos k]
      refine best_fold s l (d ++ [x]) x pw (by omega) (.inr ⟨by simp, by omega, fun y hy q => ?_⟩) fun y hy => ?_
      · rcases List.mem_append.mp hy with hy | hy
        · have := h3 y hy; omega
        · rw [List.mem_singleton.mp hy]; exact Int.le_refl _
      · rcases List.mem_append.mp hy with hy | hy
        · have := h3 y hy; omega
        · rw [List.mem_singleton.mp hy]; exact Int.le_refl _
    · rw [if_neg k]
      refine best_fold s l (d ++ [x]) b pw h1 ?_ fun y hy => ?_
      · rcases h2 with h2 | ⟨h2, h4, h5⟩
        · exact .inl h2
        · refine .inr ⟨by simp [h2], h4, fun y hy q => ?_⟩
          rcases List.mem_append.mp hy with hy | hy
          · exact h5 y hy q
          · rw [List.mem_singleton.mp hy]; exact dx b h2
      · rcases List.mem_append.mp hy with hy | hy
        · exact h3 y hy
        · rw [List.mem_singleton.mp hy]; omega
/-- the next one: the nearest of those nearer, of several the least -/
def nxt (f : Int → Int) (s : Int) (R : List Int) : Option Int := match (R.map fun x => (f x, x)).filter (fun e => decide (e.1 < f s)) with
  | [] => none
  | b :: bs => some (minF b bs).2
theorem nxt_some {f : Int → Int} {s y : Int} {R : List Int} (h : nxt f s R = some y) : y ∈ R ∧ f y < f s ∧ (∀ x ∈ R, f x < f s → f y ≤ f x) ∧ ∀ x ∈ R, f x = f y → y ≤ x := by
  unfold nxt at h
  split at h
  · cases h
  · rename_i b bs e
    cases h
    have m := minF_mem b bs
    rw [← e] at m
    obtain ⟨m1, m2⟩ := List.mem_filter.mp m
    obtain ⟨z, hz, ez⟩ := List.mem_map.mp m1
    rw [← ez] at m2 ⊢
    have m2 := of_decide_eq_true m2
    dsimp only at m2 ⊢
    have le : ∀ x ∈ R, f x < f s → leP (f z, z) (f x, x) = true := fun x hx hf => by
      rw [ez]
      exact minF_le bs b _ (by rw [← e]; exact List.mem_filter.mpr ⟨List.mem_map.mpr ⟨x, hx, rfl⟩, decide_eq_true hf⟩)
    refine ⟨hz, m2, fun x hx hf => ?_, fun x hx q => ?_⟩
    · have := leP_iff.mp (le x hx hf)
      dsimp only at this
      omega
    · have := leP_iff.mp (le x hx (by omega))
      dsimp only at this
      omega
theorem nxt_none {f : Int → Int} {s : Int} {R : List Int} (h : nxt f s R = none) : ∀ x ∈ R, f s ≤ f x := fun x hx => by
  unfold nxt at h
  split at h
  · rename_i e
    by_cases k : f x < f s
    · have : (f x, x) ∈ (R.map fun x => (f x, x)).filter (fun e => decide (e.1 < f s)) := List.mem_filter.mpr ⟨List.mem_map.mpr ⟨x, hx, rfl⟩, decide_eq_true k⟩
      rw [e] at this
      cases this
    · omega
  · cases h
theorem nxt_best {f : Int → Int} {s : Int} {R l : List Int} (pm : l.Perm R) (pw : l.Pairwise fun x y => x ≤ y) : l.foldl (fun b x => if f x < f b then x else b) s = (nxt f s R).getD s := by
  obtain ⟨h1, h2, h3⟩ := best_fold (f := f) s l [] s (by rw [List.nil_append]; exact pw) (Int.le_refl _) (.inl rfl) (fun x hx => by cases hx)
  rw [List.nil_append] at h2 h3
  cases q : nxt f s R with
  | none =>
    have n := nxt_none q
    rcases h2 with h2 | ⟨h2, h4, _⟩
    · rw [h2]; rfl
    · have := n _ (pm.mem_iff.mp h2)
      omega
  | some y =>
    obtain ⟨y1, y2, y3, y4⟩ := nxt_some q
    have k := h3 y (pm.mem_iff.mpr y1)
    rcases h2 with h2 | ⟨h2, h4, h5⟩
    · rw [h2] at k
      omega
    · have a := y3 _ (pm.mem_iff.mp h2) h4
      have b := h5 y (pm.mem_iff.mpr y1) (by omega)
      have c := y4 _ (pm.mem_iff.mp h2) (by omega)
      show _ = y
      omega
end T
/-! a star holds every direction; the nearest point -/
namespace T
local instance tb16 : Tb := ⟨[]⟩
section
variable {p : Int → Pt} {S : List Int} {N : List Tri} {s e : Int}
/-- in an open half plane the way round is an order -/
theorem half_trans {a b c d : Pt} (ha : crs a d < 0) (hb : crs b d < 0) (hc : crs c d < 0) (h1 : 0 < crs a b) (h2 : 0 < crs b c) : 0 < crs a c := by
  have e := plu a c b d
  have e1 : crs c b = - crs b c := crs_neg _ _
  have e2 : crs d c = - crs c d := crs_neg _ _
  -- crs a c * crs b d = crs a b * crs c d + crs a d * crs b c
  have e3 : crs a c * crs b d = crs a b * crs c d + crs a d * crs b c := by unfold crs; grind
  have p1 := mul_pos' h1 (show 0 < - crs c d by omega)
  have p2 := mul_pos' (show 0 < - crs a d by omega) h2
  rw [Int.mul_neg] at p1
  rw [Int.neg_mul] at p2
  have : 0 < (- crs b d) * crs a c := by rw [Int.neg_mul, Int.mul_comm]; omega
  exact pos_of_mul (by omega) this
/-- a closed way that turns left all the time looks everywhere -/
theorem cycle_all {g : Nat → Pt} {k : Nat} (hk : 0 < k) (cl : g k = g 0) (left : ∀ i, i < k → 0 < crs (g i) (g (i + 1))) (d : Pt) : ∃ i, i < k ∧ 0 ≤ crs (g i) d ∧ 0 ≤ crs d (g (i + 1)) := by
  by_cases z : ∃ i, i < k ∧ 0 ≤ crs (g i) d ∧ 0 ≤ crs d (g (i + 1))
  · exact z
  · exfalso
    have no : ∀ i, i < k → 0 ≤ crs (g i) d → 0 < crs (g (i + 1)) d := fun i hi h => by
      by_cases w : 0 ≤ crs d (g (i + 1))
      · exact absurd ⟨i, hi, h, w⟩ z
      · have := crs_neg (g (i + 1)) d
        omega
    -- in an open half plane there is no such way
    have open_ : ∀ u : Pt, (∀ i, i ≤ k → crs (g i) u < 0) → False := fun u hu => by
      have go : ∀ i, i < k → 0 < crs (g 0) (g (i + 1)) := fun i => by
        induction i with
        | zero => exact fun h => left 0 h
        | succ i ih => exact fun h => half_trans (hu 0 (by omega)) (hu (i + 1) (by omega)) (hu (i + 2) (by omega)) (ih (by omega)) (left (i + 1) h)
      have := go (k - 1) (by omega)
      rw [show k - 1 + 1 = k by omega, cl] at this
      have : crs (g 0) (g 0) = 0 := by unfold crs; grind
      omega
    by_cases w : ∃ i, i ≤ k ∧ 0 ≤ crs (g i) d
    · -- then all of them
      obtain ⟨i, hi, h⟩ := w
      have up : ∀ j, i + j ≤ k → 0 ≤ crs (g (i + j)) d := fun j => by
        induction j with
        | zero => exact fun _ => h
        | succ j ih => exact fun hj => Int.le_of_lt (no (i + j) (by omega) (ih (by omega)))
      have h0 : 0 ≤ crs (g 0) d := by
        have := up (k - i) (by omega)
        rw [show i + (k - i) = k by omega, cl] at this
        exact this
      have all : ∀ j, j < k → 0 < crs (g (j + 1)) d := fun j => by
        induction j with
        | zero => exact fun hj => no 0 hj h0
        | succ j ih => exact fun hj => no (j + 1) hj (Int.le_of_lt (ih (by omega)))
      have all' : ∀ j, j ≤ k → 0 < crs (g j) d := fun j hj => by
        cases j with
        | zero =>
          have := all (k - 1) (by omega)
          rw [show k - 1 + 1 = k by omega, cl] at this
          exact this
        | succ j => exact all j (by omega)
      refine open_ (-d.1, -d.2) fun j hj => ?_
      have := all' j hj
      have e : crs (g j) (-d.1, -d.2) = - crs (g j) d := by unfold crs; grind
      omega
    · exact open_ d fun i hi => by
        by_cases q : crs (g i) d < 0
        · exact q
        · exact absurd ⟨i, hi, by omega⟩ w
/-- from one side to the other one comes by every direction between -/
theorem path_all {g : Nat → Pt} {d : Pt} : ∀ {k : Nat}, 0 < k → 0 ≤ crs (g 0) d → 0 ≤ crs d (g k) → ∃ i, i < k ∧ 0 ≤ crs (g i) d ∧ 0 ≤ crs d (g (i + 1)) := fun {k} hk h0 h1 => by
  by_cases z : ∃ i, i < k ∧ 0 ≤ crs (g i) d ∧ 0 ≤ crs d (g (i + 1))
  · exact z
  · exfalso
    have go : ∀ i, i < k → 0 ≤ crs (g i) d := fun i => by
      induction i with
      | zero => exact fun _ => h0
      | succ i ih =>
        intro hi
        by_cases w : 0 ≤ crs d (g (i + 1))
        · exact absurd ⟨i, by omega, ih (by omega), w⟩ z
        · have := crs_neg (g (i + 1)) d
          omega
    exact z ⟨k - 1, by omega, go (k - 1) (by omega), by rw [show k - 1 + 1 = k by omega]; exact h1⟩
/-- distances by any spot -/
theorem rings_spot (a b c d q : Pt) : rings a b c d = far a q * area b c d + far b q * area c a d + far c q * area a b d - far d q * area a b c := by unfold rings far area; grind
/-- what lies in a near triangle's corner is no nearer than the least of its three -/
theorem corner {t u : Int} {q : Pt} (P : 0 < area (p s) (p t) (p u)) (h1 : 0 ≤ area (p s) (p t) (p e)) (h2 : 0 ≤ area (p u) (p s) (p e)) (R : rings (p s) (p t) (p u) (p e) ≤ 0) (ft : far (p s) q ≤ far (p t) q) (fu : far (p s) q ≤ far (p u) q) : far (p s) q ≤ far (p e) q := by
  have id := rings_spot (p s) (p t) (p u) (p e) q
  have sm := area_sum (p s) (p t) (p u) (p e)
  have m1 := Int.mul_le_mul_of_nonneg_right ft h2
  have m2 := Int.mul_le_mul_of_nonneg_right fu h1
  have e1 : far (p s) q * area (p t) (p u) (p e) = far (p s) q * area (p s) (p t) (p u) - far (p s) q * area (p s) (p t) (p e) - far (p s) q * area (p u) (p s) (p e) := by
    rw [← sm]
    grind
  have : far (p s) q * area (p s) (p t) (p u) ≤ far (p e) q * area (p s) (p t) (p u) := by omega
  exact Int.le_of_mul_le_mul_right this P
/-- those told round s, in order, hold every direction in which a point lies -/
theorem star (H : Net p S N) {R : List Int} {b0 l : Int} (ch : ∀ (i : Nat) x y, R[i]? = some x → R[i + 1]? = some y → Tr N s x y) (h0 : R.head? = some b0) (hl : R.getLast? = some l) (k0 : ∃ y, Tr N s b0 y)
    (en : ((∀ y, ¬ Tr N s l y) ∧ (s, b0) ∈ stps N ∧ (b0, s) ∉ stps N) ∨ Tr N s l b0) (he : e ∈ S) : ∃ t u, t ∈ R ∧ u ∈ R ∧ Tr N s t u ∧ 0 ≤ area (p s) (p t) (p e) ∧ 0 ≤ area (p u) (p s) (p e) := by
  have ne : R ≠ [] := fun z => by rw [z] at h0; cases h0
  have gp := List.length_pos_iff.mpr ne
  have r0 : R[0]? = some b0 := by rw [← h0, List.head?_eq_getElem?]
  have rl : R[R.length - 1]? = some l := by rw [← hl, List.getLast?_eq_getElem?]
  have gd : ∀ (i : Nat) x, R[i]? = some x → R.getD i 0 = x := fun i x h => by rw [List.getD_eq_getElem?_getD, h]; rfl
  have at_ : ∀ i, i < R.length → R[i]? = some (R.getD i 0) := fun i hi => by rw [List.getElem?_eq_getElem hi, gd i _ (List.getElem?_eq_getElem hi)]
  have mem : ∀ i, i < R.length → R.getD i 0 ∈ R := fun i hi => List.mem_of_getElem? (at_ i hi)
  rcases en with ⟨nk, b1, b2⟩ | cl
  · -- from one edge to the other
    have k2 : 1 < R.length := by
      by_cases q : 1 < R.length
      · exact q
      · exfalso
        rw [show R.length - 1 = 0 by omega, r0] at rl
        cases rl
        obtain ⟨y, hy⟩ := k0
        exact nk y hy
    have t1 := ch (R.length - 2) _ _ (at_ (R.length - 2) (by omega)) (by rw [show R.length - 2 + 1 = R.length - 1 by omega]; exact rl)
    have l1 := t1.stp.2.2
    have l2 : (s, l) ∉ stps N := fun z => by
      obtain ⟨y, hy⟩ := Tr.of_step z
      exact nk y hy
    have s1 := (H.sup _ b1 b2 e he).1
    have s2 := (H.sup _ l1 l2 e he).1
    obtain ⟨i, hi, c1, c2⟩ := path_all (g := fun i => vec (p s) (p (R.getD i 0))) (d := vec (p s) (p e)) (k := R.length - 1) (by omega) (by
      rw [gd 0 _ r0]
      exact s1) (by
      rw [gd _ _ rl, ← area_crs, ← area_rot2]
      exact s2)
    refine ⟨R.getD i 0, R.getD (i + 1) 0, mem i (by omega), mem (i + 1) (by omega), ch i _ _ (at_ i (by omega)) (at_ (i + 1) (by omega)), c1, ?_⟩
    rw [area_rot2, area_crs]
    exact c2
  · obtain ⟨i, hi, c1, c2⟩ := cycle_all (g := fun i => vec (p s) (p (R.getD (if i = R.length then 0 else i) 0))) (k := R.length) gp (by
      rw [if_pos rfl, if_neg (by omega)]) (fun i hi => by
      rw [if_neg (by omega), ← area_crs]
      by_cases q : i + 1 = R.length
      · rw [if_pos q, gd 0 _ r0]
        rw [show R.length - 1 = i by omega] at rl
        rw [gd i _ rl]
        exact cl.pos H
      · rw [if_neg q]
        exact (ch i _ _ (at_ i hi) (at_ (i + 1) (by omega))).pos H) (vec (p s) (p e))
    rw [if_neg (by omega)] at c1
    by_cases q : i + 1 = R.length
    · rw [if_pos q, gd 0 _ r0] at c2
      rw [show R.length - 1 = i by omega] at rl
      refine ⟨l, b0, List.mem_of_getElem? rl, List.mem_of_getElem? r0, cl, ?_, ?_⟩
      · rw [gd i _ rl] at c1
        exact c1
      · rw [area_rot2, area_crs]
        exact c2
    · rw [if_neg q] at c2
      refine ⟨R.getD i 0, R.getD (i + 1) 0, mem i hi, mem (i + 1) (by omega), ch i _ _ (at_ i hi) (at_ (i + 1) (by omega)), c1, ?_⟩
      rw [area_rot2, area_crs]
      exact c2
/-- than whom none of those round it is nearer, is a nearest one -/
theorem star_near (B : Bd p S) (H : Nr p S N) {R : List Int} (st : ∀ e ∈ S, ∃ t u, t ∈ R ∧ u ∈ R ∧ Tr N s t u ∧ 0 ≤ area (p s) (p t) (p e) ∧ 0 ≤ area (p u) (p s) (p e)) {q : Pt} (h : ∀ x ∈ R, far (p s) q ≤ far (p x) q) : ∀ e ∈ S, far (p s) q ≤ far (p e) q := fun e he => by
  obtain ⟨t, u, ht, hu, tr, a1, a2⟩ := st e he
  have s1 := tr.inS H.net
  have P := tr.pos H.net
  have em := lam_emp (p := p) (B s s1.1).1 (B t s1.2.1).1 (B u s1.2.2).1 (B e he).1 (B s s1.1).2 (B t s1.2.1).2 (B u s1.2.2).2 (B e he).2 P (H.net.emp H.loc tr he)
  exact corner P a1 a2 em.1 (h t ht) (h u hu)
/-- in a row: who lies behind a neighbour -/
theorem between {e t s q : Pt} (h1 : lx e t) (h2 : lx t s) (z : area e t s = 0) (f : far s q ≤ far t q) : far s q ≤ far e q := by
  have main : ∀ w1 w2 : Int, 0 < w1 → 0 ≤ w2 → w1 * e.1 + w2 * s.1 = (w1 + w2) * t.1 → w1 * e.2 + w2 * s.2 = (w1 + w2) * t.2 → far s q ≤ far e q := fun w1 w2 p1 p2 e1 e2 => by
    have c := cvx (x1 := vec q e) (x2 := vec q s) (x3 := (0, 0)) (y := vec q t) (w1 := w1) (w2 := w2) (w3 := 0) (by unfold vec; dsimp only; grind) (by unfold vec; dsimp only; grind)
    have n1 : nrm (vec q e) = far e q := by unfold nrm vec far; dsimp only
    have n2 : nrm (vec q s) = far s q := by unfold nrm vec far; dsimp only
    have n3 : nrm (vec q t) = far t q := by unfold nrm vec far; dsimp only
    rw [n1, n2, n3] at c
    simp only [Int.add_zero, Int.zero_mul, Int.mul_zero] at c
    have fp := mul_nn (mul_nn (Int.le_of_lt p1) p2) (far_nn (vec q e) (vec q s))
    have k : 0 ≤ (w1 + w2) * (w1 * far e q + w2 * far s q - (w1 + w2) * far t q) := by
      have : (w1 + w2) * (w1 * far e q + w2 * far s q - (w1 + w2) * far t q) = - ((w1 + w2) * ((w1 + w2) * far t q - (w1 * far e q + w2 * far s q))) := by grind
      rw [this, c]
      omega
    have k2 := nonneg_of_mul (by omega : 0 < w1 + w2) k
    have k3 : (w1 + w2) * far s q ≤ (w1 + w2) * far t q := Int.mul_le_mul_of_nonneg_left f (by omega)
    rw [Int.add_mul] at k3
    have k4 : w1 * far s q ≤ w1 * far e q := by omega
    exact Int.le_of_mul_le_mul_left k4 p1
  obtain ⟨ex, ey⟩ := e
  obtain ⟨tx, ty⟩ := t
  obtain ⟨sx, sy⟩ := s
  unfold lx at h1 h2
  unfold area at z
  dsimp only at h1 h2 z main
  by_cases c : tx < sx
  · refine main (sx - tx) (tx - ex) (by omega) (by omega) ?_ ?_
    · grind
    · grind
  · have c2 : tx = sx := by omega
    subst c2
    have c3 : ty < sy := by omega
    have c4 : ex = tx := by
      have : (tx - ex) * (sy - ty) = 0 := by grind
      rcases Int.mul_eq_zero.mp this with h | h <;> omega
    subst c4
    refine main (sy - ty) (ty - ey) (by omega) (by omega) ?_ ?_
    · grind
    · grind
end
end T
namespace G_k13
open PySem PySem.Spec PyProof.Rows L2 T
def top (i : Nat) : Stmt := PySem.Challenge.pw_nearfields_k13_whole_nearest_found.main.body.getD i (.Pass ⟨0, 0, 0, 0⟩)
abbrev s_twice_area : Stmt := top 5
abbrev s_sign : Stmt := top 6
abbrev s_turn : Stmt := top 7
abbrev s_far : Stmt := top 8
abbrev s_ring : Stmt := top 9
abbrev s_in_order : Stmt := top 11
abbrev s_first_off : Stmt := top 12
abbrev s_rolled : Stmt := top 13
abbrev s_swept : Stmt := top 14
abbrev s_joined : Stmt := top 15
abbrev s_hull : Stmt := top 16
abbrev s_spread : Stmt := top 17
abbrev s_need_number : Stmt := top 19
abbrev s_beside : Stmt := top 20
abbrev s_later_of : Stmt := top 21
abbrev s_in_turn : Stmt := top 22
abbrev s_around : Stmt := top 23
abbrev s_walked : Stmt := top 24
abbrev s_tops : Stmt := top 26
abbrev s_is_wrong : Stmt := top 27
abbrev s_wrong_of : Stmt := top 28
abbrev s_turned_over : Stmt := top 29
abbrev s_mended : Stmt := top 30
abbrev s_near : Stmt := top 31
abbrev s__law_cell_at : Stmt := top 33
abbrev s__law_mixed : Stmt := top 34
abbrev s__law_point : Stmt := top 35
abbrev s__law_grown : Stmt := top 36
abbrev s__law_points : Stmt := top 37
abbrev s__law_far : Stmt := top 38
abbrev s__law_whole : Stmt := top 39
abbrev s__law_spot : Stmt := top 40
abbrev s__law_known : Stmt := top 41
abbrev s__law_turned : Stmt := top 42
abbrev s_law : Stmt := top 43
structure Fr (mg : Str → Option Value) : Prop where
  b_int : mg "int" = none
  b_sorted : mg "sorted" = none
  b_list : mg "list" = none
  b_range : mg "range" = none
  b_len : mg "len" = none
  b_min : mg "min" = none
  b_reversed : mg "reversed" = none
  b_bool : mg "bool" = none
  b_isinstance : mg "isinstance" = none
  b_max : mg "max" = none
  b_set : mg "set" = none
  b_all : mg "all" = none
  b_zip : mg "zip" = none
structure Xf (K : PySem.W.Frag) (mg : Str → Option Value) : Prop where
  g_FieldError : mg "FieldError" = some (.ref (He.ga K "FieldError"))
  g_InRow : mg "InRow" = some (.ref (He.ga K "InRow"))
  g_NoPoint : mg "NoPoint" = some (.ref (He.ga K "NoPoint"))
variable [Tb] {P : Program} {w : World} {K : PySem.W.Frag} {mg : Str → Option Value} {base : Heap} {fa : Addr} {fd : FuncData}
noncomputable def mb_twice_area (v_a : (Int × Int)) (v_b : (Int × Int)) (v_c : (Int × Int)) : Option (Out Int Unit) := (oret (osub (omul (osub (ofst (some v_b)) (ofst (some v_a))) (osub (osnd (some v_c)) (osnd (some v_a)))) (omul (osub (osnd (some v_b)) (osnd (some v_a))) (osub (ofst (some v_c)) (ofst (some v_a))))))
noncomputable def m_twice_area (v_a : (Int × Int)) (v_b : (Int × Int)) (v_c : (Int × Int)) : Option Int := retv (mb_twice_area v_a v_b v_c)
theorem sc_twice_area : FnScope ["a", "b", "c"] ["a", "b", "c"] (defScope s_twice_area) := ⟨rfl, rfl, rfl, by decide +kernel, rfl, by decide +kernel, by decide +kernel⟩
theorem ok_twice_area (B : Fr mg)  (F : FunD K "twice_area" "twice_area" (defArgs s_twice_area) (defBody s_twice_area) (defScope s_twice_area) [] [] fa fd) : FnOk P w K mg base CX0 1 fa fd ["a", "b", "c"] (spOf K false (C3 m_twice_area)) :=
  fn_ok3 (m := mb_twice_area) (post := fun _ => []) F sc_twice_area (by decide) rfl fun cdv A outer s H E hr v_a v_b v_c => (bs_ret (ep_sub (ep_mul (ep_sub (ep_fst (ep_var 1)) (ep_fst (ep_var 0))) (ep_sub (ep_snd (ep_var 2)) (ep_snd (ep_var 0)))) (ep_mul (ep_sub (ep_snd (ep_var 1)) (ep_snd (ep_var 0))) (ep_sub (ep_fst (ep_var 2)) (ep_fst (ep_var 0))))))
noncomputable def mb_sign (v_number : Int) : Option (Out Int Unit) := (oret (osub (ob2i (ogt (some v_number) (some (0 : Int)))) (ob2i (olt (some v_number) (some (0 : Int))))))
noncomputable def m_sign (v_number : Int) : Option Int := retv (mb_sign v_number)
theorem sc_sign : FnScope ["number"] ["number"] (defScope s_sign) := ⟨rfl, rfl, rfl, by decide +kernel, rfl, by decide +kernel, by decide +kernel⟩
theorem ok_sign (B : Fr mg)  (F : FunD K "sign" "sign" (defArgs s_sign) (defBody s_sign) (defScope s_sign) [] [] fa fd) : FnOk P w K mg base CX0 1 fa fd ["number"] (spOf K false (C1 m_sign)) :=
  fn_ok1 (m := mb_sign) (post := fun _ => []) F sc_sign (by decide) rfl fun cdv A outer s H E hr v_number => (bs_ret (ep_sub (ep_intB (by rfl) B.b_int (Cq.e (cq_gt (ep_var 0) ep_int) _)) (ep_intB (by rfl) B.b_int (Cq.e (cq_lt (ep_var 0) ep_int) _))))
noncomputable def mb_turn (v_a : (Int × Int)) (v_b : (Int × Int)) (v_c : (Int × Int)) : Option (Out Int Unit) := (oret (Option.bind (bind3 (some v_a) (some v_b) (some v_c) m_twice_area) m_sign))
noncomputable def m_turn (v_a : (Int × Int)) (v_b : (Int × Int)) (v_c : (Int × Int)) : Option Int := retv (mb_turn v_a v_b v_c)
theorem sc_turn : FnScope ["a", "b", "c"] ["a", "b", "c"] (defScope s_turn) := ⟨rfl, rfl, rfl, by decide +kernel, rfl, by decide +kernel, by decide +kernel⟩
theorem ok_turn (B : Fr mg) (h_twice_area : Has P w K mg base 1 "twice_area" ["a", "b", "c"] (spOf K false (C3 m_twice_area))) (h_sign : Has P w K mg base 1 "sign" ["number"] (spOf K false (C1 m_sign))) (F : FunD K "turn" "turn" (defArgs s_turn) (defBody s_turn) (defScope s_turn) [] [] fa fd) : FnOk P w K mg base CX0 2 fa fd ["a", "b", "c"] (spOf K false (C3 m_turn)) :=
  fn_ok3 (m := mb_turn) (post := fun _ => []) F sc_turn (by decide) rfl fun cdv A outer s H E hr v_a v_b v_c => (bs_ret (ep_has h_sign hr (by decide) (ag_cons (ep_has h_twice_area hr (by decide) (ag_cons (ep_var 0) (ag_cons (ep_var 1) (ag_cons (ep_var 2) ag_nil))) c3) ag_nil) c1))
noncomputable def mb_far (v_a : (Int × Int)) (v_b : (Int × Int)) : Option (Out Int Unit) := (oret (oadd (opow (osub (ofst (some v_a)) (ofst (some v_b))) (some (2 : Int))) (opow (osub (osnd (some v_a)) (osnd (some v_b))) (some (2 : Int)))))
noncomputable def m_far (v_a : (Int × Int)) (v_b : (Int × Int)) : Option Int := retv (mb_far v_a v_b)
theorem sc_far : FnScope ["a", "b"] ["a", "b"] (defScope s_far) := ⟨rfl, rfl, rfl, by decide +kernel, rfl, by decide +kernel, by decide +kernel⟩
theorem ok_far (B : Fr mg)  (F : FunD K "far" "far" (defArgs s_far) (defBody s_far) (defScope s_far) [] [] fa fd) : FnOk P w K mg base CX0 1 fa fd ["a", "b"] (spOf K false (C2 m_far)) :=
  fn_ok2 (m := mb_far) (post := fun _ => []) F sc_far (by decide) rfl fun cdv A outer s H E hr v_a v_b => (bs_ret (ep_add (ep_pow (ep_sub (ep_fst (ep_var 0)) (ep_fst (ep_var 1))) ep_int) (ep_pow (ep_sub (ep_snd (ep_var 0)) (ep_snd (ep_var 1))) ep_int)))
noncomputable def mb_ring (v_a : (Int × Int)) (v_b : (Int × Int)) (v_c : (Int × Int)) (v_d : (Int × Int)) : Option (Out Int Unit) := (Option.bind (bind3 (some v_a) (some v_b) (some v_c) m_turn) fun (v_side : Int) => (oite (oeq (some v_side) (some (0 : Int))) (noGo none) (Option.bind (oadd (oadd (omul (bind2 (some v_a) (some v_d) m_far) (bind3 (some v_d) (some v_b) (some v_c) m_twice_area)) (omul (bind2 (some v_b) (some v_d) m_far) (bind3 (some v_d) (some v_c) (some v_a) m_twice_area))) (omul (bind2 (some v_c) (some v_d) m_far) (bind3 (some v_d) (some v_a) (some v_b) m_twice_area))) fun (v_found : Int) => (oret (omul (Option.bind (some v_found) m_sign) (some v_side))))))
noncomputable def m_ring (v_a : (Int × Int)) (v_b : (Int × Int)) (v_c : (Int × Int)) (v_d : (Int × Int)) : Option Int := retv (mb_ring v_a v_b v_c v_d)
theorem sc_ring : FnScope ["a", "b", "c", "d", "side", "found"] ["a", "b", "c", "d"] (defScope s_ring) := ⟨rfl, rfl, rfl, by decide +kernel, rfl, by decide +kernel, by decide +kernel⟩
theorem ok_ring (B : Fr mg) (h_turn : Has P w K mg base 2 "turn" ["a", "b", "c"] (spOf K false (C3 m_turn))) (h_far : Has P w K mg base 1 "far" ["a", "b"] (spOf K false (C2 m_far))) (h_twice_area : Has P w K mg base 1 "twice_area" ["a", "b", "c"] (spOf K false (C3 m_twice_area))) (h_sign : Has P w K mg base 1 "sign" ["number"] (spOf K false (C1 m_sign))) (F : FunD K "ring" "ring" (defArgs s_ring) (defBody s_ring) (defScope s_ring) [] [] fa fd) : FnOk P w K mg base CX0 3 fa fd ["a", "b", "c", "d"] (spOf K false (C4 m_ring)) :=
  fn_ok4 (m := mb_ring) (post := fun _ => []) F sc_ring (by decide) rfl fun cdv A outer s H E hr v_a v_b v_c v_d => (bs_asg 4 sc_ring.nd (ep_has h_turn hr (by decide) (ag_cons (ep_var 0) (ag_cons (ep_var 1) (ag_cons (ep_var 2) ag_nil))) c3) fun v_side => (bs_ifR (Cq.t (cq_eqS (ep_var 4) ep_int) _) bs_none (bs_asg 5 sc_ring.nd (ep_add (ep_add (ep_mul (ep_has h_far hr (by decide) (ag_cons (ep_var 0) (ag_cons (ep_var 3) ag_nil)) c2) (ep_has h_twice_area hr (by decide) (ag_cons (ep_var 3) (ag_cons (ep_var 1) (ag_cons (ep_var 2) ag_nil))) c3)) (ep_mul (ep_has h_far hr (by decide) (ag_cons (ep_var 1) (ag_cons (ep_var 3) ag_nil)) c2) (ep_has h_twice_area hr (by decide) (ag_cons (ep_var 3) (ag_cons (ep_var 2) (ag_cons (ep_var 0) ag_nil))) c3))) (ep_mul (ep_has h_far hr (by decide) (ag_cons (ep_var 2) (ag_cons (ep_var 3) ag_nil)) c2) (ep_has h_twice_area hr (by decide) (ag_cons (ep_var 3) (ag_cons (ep_var 0) (ag_cons (ep_var 1) ag_nil))) c3))) fun v_found => (bs_ret (ep_mul (ep_has h_sign hr (by decide) (ag_cons (ep_var 5) ag_nil) c1) (ep_var 4))))))
noncomputable def mb_in_order (v_points : (List (Int × Int))) : Option (Out (List Int) Unit) := oret (osortL v_points (orng (olen (some v_points))))
noncomputable def m_in_order (v_points : (List (Int × Int))) : Option (List Int) := retv (mb_in_order v_points)
theorem sc_in_order : FnScope ["points"] ["points"] (defScope s_in_order) := ⟨rfl, rfl, rfl, by decide +kernel, rfl, by decide +kernel, by decide +kernel⟩
abbrev lamN : Str := (("in_order" : Str) ++ ".<locals>.") ++ "<lambda>"
theorem ok_in_order (B : Fr mg) (hT : Tb.T = [((He.cT K ("in_order", none)).2, lamN)]) (TB : LamX.TabB base mg (He.codeOf K ("in_order", none)) (He.cT K ("in_order", none)).2) (F : FunD K "in_order" "in_order" (defArgs s_in_order) (defBody s_in_order) (defScope s_in_order) [] [] (He.fAd K ("in_order", none)) fd) : FnOk P w K mg base CX0 2 (He.fAd K ("in_order", none)) fd ["points"] (spOf K true (C1 m_in_order)) :=
  fn_okC1 (m := mb_in_order) (post := fun _ => []) F sc_in_order (by decide) rfl fun A outer s H E hr v_points => bs_retF (ep_sortlam (i := 0) (k := 0) (c := He.codeOf K ("in_order", none)) (P := (He.cT K ("in_order", none)).2) (ep_listR rfl (by rfl) B.b_list (by rfl) B.b_range (ep_len (by rfl) B.b_len (Ep.lp (ep_var 0)))) rfl (by rfl) B.b_sorted (by intro _; rfl) TB rfl hT hr (by rfl) (fun _ _ _ _ _ _ => rfl) rfl rfl rfl (by decide +kernel) (by decide +kernel) (by decide +kernel) (by decide +kernel) rfl rfl (by decide +kernel) (by decide +kernel) (by decide +kernel) (fun _ _ => rfl))
noncomputable def mb_first_off (v_points : (List (Int × Int))) (v_order : (List Int)) : Option (Out Int Unit) := (Option.bind (some (2 : Int)) fun (v_many : Int) => (thenO (loopW (fun (g1 : (Int)) => (oand (olt (some g1) (olen (some v_order))) (oeq (bind3 (oidx (some v_points) (oidx (some v_order) (some (0 : Int)))) (oidx (some v_points) (oidx (some v_order) (some (1 : Int)))) (oidx (some v_points) (oidx (some v_order) (some g1))) m_turn) (some (0 : Int))))) (fun (g1 : (Int)) => (Option.bind (oadd (some g1) (some (1 : Int))) fun (v_many : Int) => (some (.go (v_many) : Out Int (Int))))) (v_many)) fun (g1 : (Int)) => (oret (some g1))))
noncomputable def m_first_off (v_points : (List (Int × Int))) (v_order : (List Int)) : Option Int := retv (mb_first_off v_points v_order)
theorem sc_first_off : FnScope ["points", "order", "many"] ["points", "order"] (defScope s_first_off) := ⟨rfl, rfl, rfl, by decide +kernel, rfl, by decide +kernel, by decide +kernel⟩
theorem ok_first_off (B : Fr mg) (h_turn : Has P w K mg base 2 "turn" ["a", "b", "c"] (spOf K false (C3 m_turn))) (F : FunD K "first_off" "first_off" (defArgs s_first_off) (defBody s_first_off) (defScope s_first_off) [] [] fa fd) : FnOk P w K mg base CX0 3 fa fd ["points", "order"] (spOf K false (C2 m_first_off)) :=
  fn_ok2 (m := mb_first_off) (post := fun _ => []) F sc_first_off (by decide) rfl fun cdv A outer s H E hr v_points v_order => (bs_asg 2 sc_first_off.nd ep_int fun v_many => (bs_while (fun (g1 : (Int)) => [.imm (α := (List (Int × Int))) v_points, .imm (α := (List Int)) v_order, .imm (α := Int) g1]) (v_many) (Wk.same (Wk.same (Wk.same Wk.nil))) (fun g1 => (tp_w (wp_and (Cq.t (cq_lt (ep_var 2) (ep_len (by rfl) B.b_len (Ep.lp (ep_var 1)))) _) (wp_and1 (Cq.t (cq_eqS (ep_has h_turn hr (by decide) (ag_cons (ep_idx (Ep.lp (ep_var 0)) (ep_idx (Ep.lp (ep_var 1)) ep_int)) (ag_cons (ep_idx (Ep.lp (ep_var 0)) (ep_idx (Ep.lp (ep_var 1)) ep_int)) (ag_cons (ep_idx (Ep.lp (ep_var 0)) (ep_idx (Ep.lp (ep_var 1)) (ep_var 2))) ag_nil))) c3) ep_int) _))))) (fun g1 => (bs_asg 2 sc_first_off.nd (ep_add (ep_var 2) ep_int) fun v_many => (bs_go (Wk.same (Wk.same (Wk.same Wk.nil)))))) (fun g1 => (bs_ret (ep_var 2))) .never))
noncomputable def mb_rolled (v_triple : Tri) : Option (Out Tri Unit) := (Option.bind (oindx (otl (some v_triple)) (ominL (otl (some v_triple)))) fun (v_at : Int) => (oret (o3 (ocat (ocut (otl (some v_triple)) (osome (some v_at)) (some none)) (ocut (otl (some v_triple)) (some none) (osome (some v_at)))))))
noncomputable def m_rolled (v_triple : Tri) : Option Tri := retv (mb_rolled v_triple)
theorem sc_rolled : FnScope ["triple", "at"] ["triple"] (defScope s_rolled) := ⟨rfl, rfl, rfl, by decide +kernel, rfl, by decide +kernel, by decide +kernel⟩
theorem ok_rolled (B : Fr mg)  (F : FunD K "rolled" "rolled" (defArgs s_rolled) (defBody s_rolled) (defScope s_rolled) [] [] fa fd) : FnOk P w K mg base CX0 1 fa fd ["triple"] (spOf K false (C1 m_rolled)) :=
  fn_ok1 (m := mb_rolled) (post := fun _ => []) F sc_rolled (by decide) rfl fun cdv A outer s H E hr v_triple => (bs_asg 1 sc_rolled.nd (ep_tindex (up_tri (ep_var 0)) (ep_minU rfl hr.units (by rfl) B.b_min (up_tri (ep_var 0)))) fun v_at => (bs_ret (ep_up3 (up_cat (up_cut (up_tri (ep_var 0)) (pp_some (ep_var 1)) pp_none) (up_cut (up_tri (ep_var 0)) pp_none (pp_some (ep_var 1)))))))
noncomputable def mb_joined (v_kept : (List (Int × Int))) (v_number : Int) : Option (Out (List Int) Unit) := (Option.bind (some (0 : Int)) fun (v_k : Int) => (thenO (loopW (fun (g1 : (Int)) => (oeq (osnd (oidx (some v_kept) (osub (some g1) (some (1 : Int))))) (ofst (oidx (some v_kept) (some g1))))) (fun (g1 : (Int)) => (Option.bind (oadd (some g1) (some (1 : Int))) fun (v_k : Int) => (some (.go (v_k) : Out (List Int) (Int))))) (v_k)) fun (g1 : (Int)) => (Option.bind (ocat (ocut (some v_kept) (osome (some g1)) (some none)) (ocut (some v_kept) (some none) (osome (some g1)))) fun (v_kept : (List (Int × Int))) => (oret (ocat (Option.bind (some v_kept) fun xs3 => if capOk xs3.length then lcM oYes (fun (x2 : (Int × Int)) => (ofst (some x2))) xs3 else none) (ocons (osnd (oidx (some v_kept) (oneg (some (1 : Int))))) (ocons (some v_number) (some ([] : List Int)))))))))
noncomputable def m_joined (v_kept : (List (Int × Int))) (v_number : Int) : Option (List Int) := retv (mb_joined v_kept v_number)
theorem sc_joined : FnScope ["kept", "number", "k", "pair"] ["kept", "number"] (defScope s_joined) := ⟨rfl, rfl, rfl, by decide +kernel, rfl, by decide +kernel, by decide +kernel⟩
theorem ok_joined (B : Fr mg)  (F : FunD K "joined" "joined" (defArgs s_joined) (defBody s_joined) (defScope s_joined) [] [] fa fd) : FnOk P w K mg base CX0 1 fa fd ["kept", "number"] (spOf K true (C2 m_joined)) :=
  fn_ok2 (m := mb_joined) (post := fun _ => []) F sc_joined (by decide) rfl fun cdv A outer s H E hr v_kept v_number => (bs_asg 2 sc_joined.nd ep_int fun v_k => (bs_while (fun (g1 : (Int)) => [.imm (α := (List (Int × Int))) v_kept, .imm (α := Int) v_number, .imm (α := Int) g1, .any]) (v_k) (Wk.same (Wk.same (Wk.same (Wk.same Wk.nil)))) (fun g1 => (Cq.t (cq_eqS (ep_snd (ep_idx (Ep.lp (ep_var 0)) (ep_sub (ep_var 2) ep_int))) (ep_fst (ep_idx (Ep.lp (ep_var 0)) (ep_var 2)))) _)) (fun g1 => (bs_asg 2 sc_joined.nd (ep_add (ep_var 2) ep_int) fun v_k => (bs_go (Wk.same (Wk.same (Wk.same (Wk.same Wk.nil))))))) (fun g1 => (bs_asg 0 sc_joined.nd (EpF.ep (ep_cat (EpF.lp (ep_cut (Ep.lp (ep_var 0)) (pp_some (ep_var 2)) pp_none)) (EpF.lp (ep_cut (Ep.lp (ep_var 0)) pp_none (pp_some (ep_var 2)))))) fun v_kept => (bs_retF (ep_cat (EpF.lp (LcOk.ep rfl sc_joined.nd (lc_C [("pair", 3)] (blkOk_by (N := ["kept", "number", "k", "pair"]) (sc := defScope s_joined) (by decide +kernel)) (Ep.lp (ep_var 0)) (fun _ _ _ _ _ => (pg_name (i := 3) sc_joined.nd rfl (by first | exact Or.inl rfl | exact Or.inr rfl))) (tg_name 3) (by intro j hj; simpa using hj) (fun _ _ _ _ _ => pts_nil) tts_nil (fun x2 _ _ _ _ _ => (ep_fst (ep_var 3))) (by intro _; rfl)))) (EpF.lp (ep_lst (al_cons (ep_snd (ep_idx (Ep.lp (ep_var 0)) (ep_neg ep_int))) (al_cons (ep_var 1) al_nil)))))))) .never))
noncomputable def mb_swept (v_points : (List (Int × Int))) : Option (Out ((List Tri) × (List Int)) Unit) := (Option.bind (Option.bind (some v_points) m_in_order) fun (v_order : (List Int)) => (Option.bind (bind2 (some v_points) (some v_order) m_first_off) fun (v_many : Int) => (oite (oge (some v_many) (olen (some v_order))) (noGo (oret (omk2 (some ([] : List Tri)) (some v_order)))) (Option.bind (ocut (some v_order) (some none) (osome (some v_many))) fun (v_row : (List Int)) => (thenO (oite (olt (bind3 (oidx (some v_points) (oidx (some v_row) (some (0 : Int)))) (oidx (some v_points) (oidx (some v_row) (some (1 : Int)))) (oidx (some v_points) (oidx (some v_order) (some v_many))) m_turn) (some (0 : Int))) (Option.bind (orev (some v_row)) fun (v_row : (List Int)) => (some (.go (v_row) : Out ((List Tri) × (List Int)) ((List Int))))) (some (.go (v_row) : Out ((List Tri) × (List Int)) ((List Int))))) fun (g1 : ((List Int))) => (Option.bind ((orng (osub (some v_many) (some (1 : Int)))).bind fun xs3 => if capOk xs3.length then lcM oYes (fun (x2 : Int) => (omk3 (oidx (some g1) (some x2)) (oidx (some g1) (oadd (some x2) (some (1 : Int)))) (oidx (some v_order) (some v_many)))) xs3 else none) fun (v_triangles : (List Tri)) => (Option.bind (ocat (some g1) (ocons (oidx (some v_order) (some v_many)) (some ([] : List Int)))) fun (v_around : (List Int)) => (Option.bind (ocut (some v_order) (osome (oadd (some v_many) (some (1 : Int)))) (some none)) fun xs10 => thenO (loopL (fun (x5 : Int) (g4 : ((List Tri) × (List Int))) => (Option.bind (some ([] : List (Int × Int))) fun (v_kept : (List (Int × Int))) => (Option.bind (orng (olen (some g4.2))) fun xs9 => thenO (loopL (fun (x7 : Int) (g6 : ((List Tri) × (List (Int × Int)))) => (Option.bind (oidx (some g4.2) (some x7)) fun (v_one : Int) => (Option.bind (oidx (some g4.2) (omod (oadd (some x7) (some (1 : Int))) (olen (some g4.2)))) fun (v_other : Int) => (thenO (oite (olt (bind3 (oidx (some v_points) (some v_one)) (oidx (some v_points) (some v_other)) (oidx (some v_points) (some x5)) m_turn) (some (0 : Int))) (Option.bind (oapp g6.1 (omk3 (some v_other) (some v_one) (some x5))) fun (v_triangles : List Tri) => (some (.go (v_triangles, g6.2) : Out ((List Tri) × (List Int)) ((List Tri) × (List (Int × Int)))))) (Option.bind (oapp g6.2 (omk2 (some v_one) (some v_other))) fun (v_kept : List (Int × Int)) => (some (.go (g6.1, v_kept) : Out ((List Tri) × (List Int)) ((List Tri) × (List (Int × Int))))))) fun (g8 : ((List Tri) × (List (Int × Int)))) => (some (.go (g8.1, g8.2) : Out ((List Tri) × (List Int)) ((List Tri) × (List (Int × Int))))))))) xs9 (g4.1, v_kept)) fun (g6 : ((List Tri) × (List (Int × Int)))) => (Option.bind (bind2 (some g6.2) (some x5) m_joined) fun (v_around : (List Int)) => (some (.go (g6.1, v_around) : Out ((List Tri) × (List Int)) ((List Tri) × (List Int)))))))) xs10 (v_triangles, v_around)) fun (g4 : ((List Tri) × (List Int))) => (oret (omk2 (some g4.1) (some g4.2)))))))))))
noncomputable def m_swept (v_points : (List (Int × Int))) : Option ((List Tri) × (List Int)) := retv (mb_swept v_points)
theorem sc_swept : FnScope ["points", "order", "many", "row", "triangles", "around", "number", "kept", "k", "one", "other"] ["points"] (defScope s_swept) := ⟨rfl, rfl, rfl, by decide +kernel, rfl, by decide +kernel, by decide +kernel⟩
theorem ok_swept (B : Fr mg) (h_in_order : Has P w K mg base 2 "in_order" ["points"] (spOf K true (C1 m_in_order))) (h_first_off : Has P w K mg base 3 "first_off" ["points", "order"] (spOf K false (C2 m_first_off))) (h_turn : Has P w K mg base 2 "turn" ["a", "b", "c"] (spOf K false (C3 m_turn))) (h_joined : Has P w K mg base 1 "joined" ["kept", "number"] (spOf K true (C2 m_joined))) (F : FunD K "swept" "swept" (defArgs s_swept) (defBody s_swept) (defScope s_swept) [] [] fa fd) : FnOk P w K mg base CX0 4 fa fd ["points"] (spOf K false (C1 m_swept)) :=
  fn_ok1 (m := mb_swept) (post := fun _ => []) F sc_swept (by decide) rfl fun cdv A outer s H E hr v_points => (bs_asg 1 sc_swept.nd (EpF.ep (ep_hasF h_in_order hr (by decide) (ag_cons (ep_var 0) ag_nil) c1)) fun v_order => (bs_asg 2 sc_swept.nd (ep_has h_first_off hr (by decide) (ag_cons (ep_var 0) (ag_cons (ep_var 1) ag_nil)) c2) fun v_many => (bs_ifR (Cq.t (cq_ge (ep_var 2) (ep_len (by rfl) B.b_len (Ep.lp (ep_var 1)))) _) (bs_ret (ep_pair (EpF.ep (ep_lst al_nil)) (ep_var 1))) (bs_asg 3 sc_swept.nd (EpF.ep (ep_cut (Ep.lp (ep_var 1)) pp_none (pp_some (ep_var 2)))) fun v_row => (bs_ifG (post1 := (fun (g1 : ((List Int))) => [.imm (α := (List (Int × Int))) v_points, .imm (α := (List Int)) v_order, .imm (α := Int) v_many, .imm (α := (List Int)) g1, .any, .any, .any, .any, .any, .any, .any])) (Cq.t (cq_lt (ep_has h_turn hr (by decide) (ag_cons (ep_idx (Ep.lp (ep_var 0)) (ep_idx (Ep.lp (ep_var 3)) ep_int)) (ag_cons (ep_idx (Ep.lp (ep_var 0)) (ep_idx (Ep.lp (ep_var 3)) ep_int)) (ag_cons (ep_idx (Ep.lp (ep_var 0)) (ep_idx (Ep.lp (ep_var 1)) (ep_var 2))) ag_nil))) c3) ep_int) _) (bs_asg 3 sc_swept.nd (EpF.ep (ep_listV rfl (by rfl) B.b_list (by rfl) B.b_reversed (Ep.lp (ep_var 3)))) fun v_row => (bs_go (Wk.same (Wk.same (Wk.same (Wk.same (Wk.same (Wk.same (Wk.same (Wk.same (Wk.same (Wk.same (Wk.same Wk.nil))))))))))))) (bs_go (Wk.same (Wk.same (Wk.same (Wk.same (Wk.same (Wk.same (Wk.same (Wk.same (Wk.same (Wk.same (Wk.same Wk.nil)))))))))))) fun g1 => (bs_asgLcM 4 rfl sc_swept.nd (lc_R [("k", 8)] (by rfl) B.b_range (blkOk_by (N := ["points", "order", "many", "row", "triangles", "around", "number", "kept", "k", "one", "other"]) (sc := defScope s_swept) (by decide +kernel)) (ep_sub (ep_var 2) ep_int) (fun _ _ _ _ _ => (pg_name (i := 8) sc_swept.nd rfl (by first | exact Or.inl rfl | exact Or.inr rfl))) (tg_name 8) (by intro j hj; simpa using hj) (fun _ _ _ _ _ => pts_nil) tts_nil (fun x2 _ _ _ _ _ => (ep_tri (ep_idx (Ep.lp (ep_var 3)) (ep_var 8)) (ep_idx (Ep.lp (ep_var 3)) (ep_add (ep_var 8) ep_int)) (ep_idx (Ep.lp (ep_var 1)) (ep_var 2)))) (by intro _; rfl) (by intro _; rfl)) fun v_triangles => (bs_asg 5 sc_swept.nd (EpF.ep (ep_cat (Ep.lp (ep_var 3)) (EpF.lp (ep_lst (al_cons (ep_idx (Ep.lp (ep_var 1)) (ep_var 2)) al_nil))))) fun v_around => (bs_for (fun (g4 : ((List Tri) × (List Int))) => [.imm (α := (List (Int × Int))) v_points, .imm (α := (List Int)) v_order, .imm (α := Int) v_many, .imm (α := (List Int)) g1, .mut (ML.mk (α := Tri) g4.1), .imm (α := (List Int)) g4.2, .any, .any, .any, .any, .any]) (v_triangles, v_around) (pg_name (i := 6) sc_swept.nd rfl (by first | exact Or.inl rfl | exact Or.inr rfl)) (tg_name 6) (EpF.ep (ep_cut (Ep.lp (ep_var 1)) (pp_some (ep_add (ep_var 2) ep_int)) pp_none)) (Wk.same (Wk.same (Wk.same (Wk.same (Wk.same (Wk.same (Wk.same (Wk.same (Wk.same (Wk.same (Wk.same Wk.nil))))))))))) (fun x5 g4 => (bs_asgM 7 sc_swept.nd (ep_lst al_nil) fun v_kept => (bs_forR (fun (g6 : ((List Tri) × (List (Int × Int)))) => [.imm (α := (List (Int × Int))) v_points, .imm (α := (List Int)) v_order, .imm (α := Int) v_many, .imm (α := (List Int)) g1, .mut (ML.mk (α := Tri) g6.1), .imm (α := (List Int)) g4.2, .imm (α := Int) x5, .mut (ML.mk (α := (Int × Int)) g6.2), .any, .any, .any]) (g4.1, v_kept) (by rfl) B.b_range (pg_name (i := 8) sc_swept.nd rfl (by first | exact Or.inl rfl | exact Or.inr rfl)) (tg_name 8) (ep_len (by rfl) B.b_len (Ep.lp (ep_var 5))) (Wk.same (Wk.same (Wk.same (Wk.same (Wk.same (Wk.same (Wk.same (Wk.same (Wk.same (Wk.same (Wk.same Wk.nil))))))))))) (fun x7 g6 => (bs_asg 9 sc_swept.nd (ep_idx (Ep.lp (ep_var 5)) (ep_var 8)) fun v_one => (bs_asg 10 sc_swept.nd (ep_idx (Ep.lp (ep_var 5)) (ep_mod (ep_add (ep_var 8) ep_int) (ep_len (by rfl) B.b_len (Ep.lp (ep_var 5))))) fun v_other => (bs_ifG (post1 := (fun (g8 : ((List Tri) × (List (Int × Int)))) => [.imm (α := (List (Int × Int))) v_points, .imm (α := (List Int)) v_order, .imm (α := Int) v_many, .imm (α := (List Int)) g1, .mut (ML.mk (α := Tri) g8.1), .imm (α := (List Int)) g4.2, .imm (α := Int) x5, .mut (ML.mk (α := (Int × Int)) g8.2), .imm (α := Int) x7, .imm (α := Int) v_one, .imm (α := Int) v_other])) (Cq.t (cq_lt (ep_has h_turn hr (by decide) (ag_cons (ep_idx (Ep.lp (ep_var 0)) (ep_var 9)) (ag_cons (ep_idx (Ep.lp (ep_var 0)) (ep_var 10)) (ag_cons (ep_idx (Ep.lp (ep_var 0)) (ep_var 6)) ag_nil))) c3) ep_int) _) (bs_app (xs := ML.mk (α := Tri) g6.1) 4 (ep_tri (ep_var 10) (ep_var 9) (ep_var 6)) fun v_triangles => (bs_go (Wk.same (Wk.same (Wk.same (Wk.same (Wk.same (Wk.same (Wk.same (Wk.same (Wk.same (Wk.same (Wk.same Wk.nil))))))))))))) (bs_app (xs := ML.mk (α := (Int × Int)) g6.2) 7 (ep_pair (ep_var 9) (ep_var 10)) fun v_kept => (bs_go (Wk.same (Wk.same (Wk.same (Wk.same (Wk.same (Wk.same (Wk.same (Wk.same (Wk.same (Wk.same (Wk.same Wk.nil))))))))))))) fun g8 => (bs_go (Wk.same (Wk.same (Wk.same (Wk.same (Wk.same (Wk.same (Wk.same (Wk.same (Wk.any (Wk.any (Wk.any Wk.nil)))))))))))))))) (fun g6 => (bs_freeze (xs := ML.mk (α := (Int × Int)) g6.2) 7 (bs_asg 5 sc_swept.nd (EpF.ep (ep_hasF h_joined hr (by decide) (ag_cons (ep_var 7) (ag_cons (ep_var 6) ag_nil)) c2)) fun v_around => (bs_go (Wk.same (Wk.same (Wk.same (Wk.same (Wk.same (Wk.same (Wk.any (Wk.any (Wk.same (Wk.same (Wk.same Wk.nil))))))))))))))) .never rfl))) (fun g4 => (bs_freeze (xs := ML.mk (α := Tri) g4.1) 4 (bs_ret (ep_pair (ep_var 4) (ep_var 5))))) .never rfl))))))))
noncomputable def mb_hull (v_points : (List (Int × Int))) : Option (Out (List Int) Unit) := (Option.bind (Option.bind (some v_points) m_in_order) fun (v_order : (List Int)) => (Option.bind (osnd (Option.bind (some v_points) m_swept)) fun (v_around : (List Int)) => (Option.bind (oindx (some v_around) (oidx (some v_order) (some (0 : Int)))) fun (v_at : Int) => (oret (ocat (ocut (some v_around) (osome (some v_at)) (some none)) (ocut (some v_around) (some none) (osome (some v_at))))))))
noncomputable def m_hull (v_points : (List (Int × Int))) : Option (List Int) := retv (mb_hull v_points)
theorem sc_hull : FnScope ["points", "order", "around", "at"] ["points"] (defScope s_hull) := ⟨rfl, rfl, rfl, by decide +kernel, rfl, by decide +kernel, by decide +kernel⟩
theorem ok_hull (B : Fr mg) (h_in_order : Has P w K mg base 2 "in_order" ["points"] (spOf K true (C1 m_in_order))) (h_swept : Has P w K mg base 4 "swept" ["points"] (spOf K false (C1 m_swept))) (F : FunD K "hull" "hull" (defArgs s_hull) (defBody s_hull) (defScope s_hull) [] [] fa fd) : FnOk P w K mg base CX0 5 fa fd ["points"] (spOf K true (C1 m_hull)) :=
  fn_ok1 (m := mb_hull) (post := fun _ => []) F sc_hull (by decide) rfl fun cdv A outer s H E hr v_points => (bs_asg 1 sc_hull.nd (EpF.ep (ep_hasF h_in_order hr (by decide) (ag_cons (ep_var 0) ag_nil) c1)) fun v_order => (bs_asg 2 sc_hull.nd (ep_snd (ep_has h_swept hr (by decide) (ag_cons (ep_var 0) ag_nil) c1)) fun v_around => (bs_asg 3 sc_hull.nd (ep_index hr.units65 (Ep.lp (ep_var 2)) (ep_idx (Ep.lp (ep_var 1)) ep_int)) fun v_at => (bs_retF (ep_cat (EpF.lp (ep_cut (Ep.lp (ep_var 2)) (pp_some (ep_var 3)) pp_none)) (EpF.lp (ep_cut (Ep.lp (ep_var 2)) pp_none (pp_some (ep_var 3)))))))))
noncomputable def mb_spread (v_points : (List (Int × Int))) : Option (Out (List Tri) Unit) := (oret (osort (Option.bind (ofst (Option.bind (some v_points) m_swept)) fun xs2 => if capOk xs2.length then lcM oYes (fun (x1 : Tri) => (Option.bind (some x1) m_rolled)) xs2 else none)))
noncomputable def m_spread (v_points : (List (Int × Int))) : Option (List Tri) := retv (mb_spread v_points)
theorem sc_spread : FnScope ["points", "triple"] ["points"] (defScope s_spread) := ⟨rfl, rfl, rfl, by decide +kernel, rfl, by decide +kernel, by decide +kernel⟩
theorem ok_spread (B : Fr mg) (h_swept : Has P w K mg base 4 "swept" ["points"] (spOf K false (C1 m_swept))) (h_rolled : Has P w K mg base 1 "rolled" ["triple"] (spOf K false (C1 m_rolled))) (F : FunD K "spread" "spread" (defArgs s_spread) (defBody s_spread) (defScope s_spread) [] [] fa fd) : FnOk P w K mg base CX0 5 fa fd ["points"] (spOf K true (C1 m_spread)) :=
  fn_ok1 (m := mb_spread) (post := fun _ => []) F sc_spread (by decide) rfl fun cdv A outer s H E hr v_points => (bs_retF (ep_sorted hr.units (by rfl) B.b_sorted (EpF.lp (LcOk.ep rfl sc_spread.nd (lc_C [("triple", 1)] (blkOk_by (N := ["points", "triple"]) (sc := defScope s_spread) (by decide +kernel)) (Ep.lp (ep_fst (ep_has h_swept hr (by decide) (ag_cons (ep_var 0) ag_nil) c1))) (fun _ _ _ _ _ => (pg_name (i := 1) sc_spread.nd rfl (by first | exact Or.inl rfl | exact Or.inr rfl))) (tg_name 1) (by intro j hj; simpa using hj) (fun _ _ _ _ _ => pts_nil) tts_nil (fun x1 _ _ _ _ _ => (ep_has h_rolled hr (by decide) (ag_cons (ep_var 1) ag_nil) c1)) (by intro _; rfl))))))
noncomputable def mb_need_number (v_points : (List (Int × Int))) (v_number : Int) : Option (Out Unit Unit) := (oite (oor (oisi (some v_number) false) (oor (onot (oisi (some v_number) true)) (onot (ochn (some (0 : Int)) (some v_number) (olen (some v_points)))))) (noGo none) (some (.go () : Out Unit Unit)))
noncomputable def m_need_number (v_points : (List (Int × Int))) (v_number : Int) : Option Unit := retu (mb_need_number v_points v_number)
theorem sc_need_number : FnScope ["points", "number"] ["points", "number"] (defScope s_need_number) := ⟨rfl, rfl, rfl, by decide +kernel, rfl, by decide +kernel, by decide +kernel⟩
theorem ok_need_number (B : Fr mg)  (F : FunD K "need_number" "need_number" (defArgs s_need_number) (defBody s_need_number) (defScope s_need_number) [] [] fa fd) : FnOk P w K mg base CX0 1 fa fd ["points", "number"] (spOf K false (C2 m_need_number)) :=
  fn_okU2 (m := mb_need_number) (post := fun (_ : Unit) => [.any, .any]) F sc_need_number (by decide) rfl fun cdv A outer s H E hr v_points v_number => (bs_ifR (tp_w (wp_or (tp_val (ep_isi (t := "bool") false B.b_isinstance B.b_bool (by decide +kernel) (by decide +kernel) (ep_var 1))) (wp_or (tp_not (tp_val (ep_isi (t := "int") true B.b_isinstance B.b_int (by decide +kernel) (by decide +kernel) (ep_var 1)))) (wp_or1 (tp_not (tp_chn ep_int (ep_var 1) (ep_len (by rfl) B.b_len (Ep.lp (ep_var 0))))))))) bs_none (bs_go (Wk.any (Wk.any Wk.nil))))
noncomputable def mb_beside (v_points : (List (Int × Int))) (v_number : Int) : Option (Out (List Int) Unit) := (Option.bind (Option.bind (some v_points) m_hull) fun (v_row : (List Int)) => (Option.bind (oindx (some v_row) (some v_number)) fun (v_at : Int) => (oret (osort (ocat (ocut (some v_row) (osome (omax2 (some (0 : Int)) (osub (some v_at) (some (1 : Int))))) (osome (some v_at))) (ocut (some v_row) (osome (oadd (some v_at) (some (1 : Int)))) (osome (oadd (some v_at) (some (2 : Int))))))))))
noncomputable def m_beside (v_points : (List (Int × Int))) (v_number : Int) : Option (List Int) := retv (mb_beside v_points v_number)
theorem sc_beside : FnScope ["points", "number", "row", "at"] ["points", "number"] (defScope s_beside) := ⟨rfl, rfl, rfl, by decide +kernel, rfl, by decide +kernel, by decide +kernel⟩
theorem ok_beside (B : Fr mg) (h_hull : Has P w K mg base 5 "hull" ["points"] (spOf K true (C1 m_hull))) (F : FunD K "beside" "beside" (defArgs s_beside) (defBody s_beside) (defScope s_beside) [] [] fa fd) : FnOk P w K mg base CX0 6 fa fd ["points", "number"] (spOf K true (C2 m_beside)) :=
  fn_ok2 (m := mb_beside) (post := fun _ => []) F sc_beside (by decide) rfl fun cdv A outer s H E hr v_points v_number => (bs_asg 2 sc_beside.nd (EpF.ep (ep_hasF h_hull hr (by decide) (ag_cons (ep_var 0) ag_nil) c1)) fun v_row => (bs_asg 3 sc_beside.nd (ep_index hr.units65 (Ep.lp (ep_var 2)) (ep_var 1)) fun v_at => (bs_retF (ep_sorted hr.units (by rfl) B.b_sorted (EpF.lp (ep_cat (EpF.lp (ep_cut (Ep.lp (ep_var 2)) (pp_some (ep_max2 rfl (by rfl) B.b_max ep_int (ep_sub (ep_var 3) ep_int))) (pp_some (ep_var 3)))) (EpF.lp (ep_cut (Ep.lp (ep_var 2)) (pp_some (ep_add (ep_var 3) ep_int)) (pp_some (ep_add (ep_var 3) ep_int))))))))))
noncomputable def mb_later_of (v_net : (List Tri)) (v_number : Int) : Option (Out (Du Int Int) Unit) := (Option.bind (some v_net) fun xs4 => thenO (loopL (fun (x2 : Tri) (g1 : ((List (Int × Int)))) => (thenO (oite (oin (some v_number) (otl (some x2))) (Option.bind (oindx (otl (some x2)) (some v_number)) fun (v_at : Int) => (Option.bind (odput (MD.mk (κ := Int) (β := Int) g1) (otri (some x2) (osub (some v_at) (some (2 : Int)))) (otri (some x2) (osub (some v_at) (some (1 : Int))))) fun (v_found : List (Int × Int)) => (some (.go (v_found) : Out (Du Int Int) ((List (Int × Int))))))) (some (.go (g1) : Out (Du Int Int) ((List (Int × Int)))))) fun (g3 : ((List (Int × Int)))) => (some (.go (g3) : Out (Du Int Int) ((List (Int × Int))))))) xs4 (([] : List (Int × Int)))) fun (g1 : ((List (Int × Int)))) => (some (.ret (Du.mk (κ := Int) (β := Int) g1))))
noncomputable def m_later_of (v_net : (List Tri)) (v_number : Int) : Option (Du Int Int) := retv (mb_later_of v_net v_number)
theorem sc_later_of : FnScope ["net", "number", "found", "triple", "at"] ["net", "number"] (defScope s_later_of) := ⟨rfl, rfl, rfl, by decide +kernel, rfl, by decide +kernel, by decide +kernel⟩
theorem ok_later_of (B : Fr mg)  (F : FunD K "later_of" "later_of" (defArgs s_later_of) (defBody s_later_of) (defScope s_later_of) [] [] fa fd) : FnOk P w K mg base CX0 1 fa fd ["net", "number"] (spOf K true (C2 m_later_of)) :=
  fn_ok2 (m := mb_later_of) (post := fun _ => []) F sc_later_of (by decide) rfl fun cdv A outer s H E hr v_net v_number => (bs_newD (κ := Int) (δ := Int) 2 sc_later_of.nd (bs_for (fun (g1 : ((List (Int × Int)))) => [.imm (α := (List Tri)) v_net, .imm (α := Int) v_number, .mut (MA.mk (l0 := none) (κ := Int) (β := Int) g1), .any, .any]) (([] : List (Int × Int))) (pg_name (i := 3) sc_later_of.nd rfl (by first | exact Or.inl rfl | exact Or.inr rfl)) (tg_name 3) (ep_var 0) (Wk.same (Wk.same (Wk.same (Wk.same (Wk.same Wk.nil))))) (fun x2 g1 => (bs_ifG (post1 := (fun (g3 : ((List (Int × Int)))) => [.imm (α := (List Tri)) v_net, .imm (α := Int) v_number, .mut (MA.mk (l0 := none) (κ := Int) (β := Int) g3), .imm (α := Tri) x2, .any])) (Cq.t (cq_inU (ep_var 1) (up_tri (ep_var 3))) _) (bs_asg 4 sc_later_of.nd (ep_tindex (up_tri (ep_var 3)) (ep_var 1)) fun v_at => (bs_dput (κ := Int) (δ := Int) (m := MA.mk (l0 := none) (κ := Int) (β := Int) g1) 2 hr.unit1 (ep_trix (ep_var 3) (ep_sub (ep_var 4) ep_int)) (ep_trix (ep_var 3) (ep_sub (ep_var 4) ep_int)) fun v_found => (bs_go (Wk.same (Wk.same (Wk.same (Wk.same (Wk.any Wk.nil)))))))) (bs_go (Wk.same (Wk.same (Wk.same (Wk.same (Wk.same Wk.nil)))))) fun g3 => (bs_go (Wk.same (Wk.same (Wk.same (Wk.any (Wk.same Wk.nil)))))))) (fun g1 => (bs_retD (d := MA.mk (l0 := none) (κ := Int) (β := Int) g1) 2)) .never rfl))
noncomputable def mb_in_turn (v_later : (Dc Int Int)) : Option (Out (List Int) Unit) := (Option.bind (ovals (some v_later)) fun (v_ends : (List Int)) => (Option.bind (Option.bind (okeys (some v_later)) fun xs2 => if capOk xs2.length then lcM (fun (x1 : Int) => (onin (some x1) (some v_ends))) (fun (x1 : Int) => (some x1)) xs2 else none) fun (v_begins : (List Int)) => (Option.bind (ocons (ominK (some v_later)) (some ([] : List Int))) fun (v_found : (List Int)) => (thenO (oite (one_ (some v_begins) (some ([] : List Int))) (some (.go (v_begins) : Out (List Int) ((List Int)))) (some (.go (v_found) : Out (List Int) ((List Int))))) fun (g3 : ((List Int))) => (thenO (loopW (fun (g4 : ((List Int))) => (oand (odin (oidx (some g4) (oneg (some (1 : Int)))) (some v_later)) (one_ (odget (some v_later) (oidx (some g4) (oneg (some (1 : Int))))) (oidx (some g4) (some (0 : Int)))))) (fun (g4 : ((List Int))) => (Option.bind (oapp g4 (odget (some v_later) (oidx (some g4) (oneg (some (1 : Int)))))) fun (v_found : List Int) => (some (.go (v_found) : Out (List Int) ((List Int)))))) (g3)) fun (g4 : ((List Int))) => (some (.ret g4)))))))
noncomputable def m_in_turn (v_later : (Dc Int Int)) : Option (List Int) := retv (mb_in_turn v_later)
theorem sc_in_turn : FnScope ["later", "ends", "begins", "found", "one"] ["later"] (defScope s_in_turn) := ⟨rfl, rfl, rfl, by decide +kernel, rfl, by decide +kernel, by decide +kernel⟩
theorem ok_in_turn (B : Fr mg)  (F : FunD K "in_turn" "in_turn" (defArgs s_in_turn) (defBody s_in_turn) (defScope s_in_turn) [] [] fa fd) : FnOk P w K mg base CX0 1 fa fd ["later"] (spOf K true (C1 m_in_turn)) :=
  fn_ok1 (m := mb_in_turn) (post := fun _ => []) F sc_in_turn (by decide) rfl fun cdv A outer s H E hr v_later => (bs_asg 1 sc_in_turn.nd (EpF.ep (ep_listVals rfl (by rfl) B.b_list (ep_var 0))) fun v_ends => (bs_asgLcM 2 rfl sc_in_turn.nd (lc_I [("one", 4)] (blkOk_by (N := ["later", "ends", "begins", "found", "one"]) (sc := defScope s_in_turn) (by decide +kernel)) (it_keys (ep_var 0)) (fun _ _ _ _ _ => (pg_name (i := 4) sc_in_turn.nd rfl (by first | exact Or.inl rfl | exact Or.inr rfl))) (tg_name 4) (by intro j hj; simpa using hj) pts_w (tts_one fun x1 _ _ _ _ _ => (Cq.t (cq_nin hr.units65 (ep_var 4) (Ep.lp (ep_var 1))) _)) (fun x1 _ _ _ _ _ => (ep_var 4)) (by intro _; rfl)) fun v_begins => (bs_asgM 3 sc_in_turn.nd (ep_lst (al_cons (ep_minK rfl (by rfl) B.b_min (ep_var 0)) al_nil)) fun v_found => (bs_ifG (post1 := (fun (g3 : ((List Int))) => [.imm (α := (Dc Int Int)) v_later, .imm (α := (List Int)) v_ends, .any, .mut (ML.mk (α := Int) g3), .any])) (tp_borrowL (m := ML.mk (α := Int) v_begins) 2 (Cq.t (cq_neD hr.units (ep_var 2) (EpF.ep (ep_lst al_nil))) _)) (bs_move (m := ML.mk (α := Int) v_begins) 3 2 sc_in_turn.nd (bs_go (Wk.same (Wk.same (Wk.same (Wk.same (Wk.same Wk.nil))))))) (bs_go (Wk.same (Wk.same (Wk.any (Wk.same (Wk.same Wk.nil)))))) fun g3 => (bs_while (fun (g4 : ((List Int))) => [.imm (α := (Dc Int Int)) v_later, .imm (α := (List Int)) v_ends, .any, .mut (ML.mk (α := Int) g4), .any]) (g3) (Wk.same (Wk.same (Wk.same (Wk.same (Wk.same Wk.nil))))) (fun g4 => (tp_w (wp_and (Cq.t (cq_dinO hr.unit1 (ep_idx (lp_var 3) (ep_neg ep_int)) (ep_var 0)) _) (wp_and1 (Cq.t (cq_neS (ep_dget hr.unit1 (ep_var 0) (ep_idx (lp_var 3) (ep_neg ep_int)) (fun _ _ => rfl)) (ep_idx (lp_var 3) ep_int)) _))))) (fun g4 => (bs_app (xs := ML.mk (α := Int) g4) 3 (ep_dget hr.unit1 (ep_var 0) (ep_idx (lp_var 3) (ep_neg ep_int)) (fun _ _ => rfl)) fun v_found => (bs_go (Wk.same (Wk.same (Wk.same (Wk.same (Wk.same Wk.nil)))))))) (fun g4 => (bs_retM 3)) .never)))))
noncomputable def mb_around (v_points : (List (Int × Int))) (v_net : (List Tri)) (v_number : Int) : Option (Out (List Int) Unit) := (Option.bind (bind2 (some v_points) (some v_number) m_need_number) fun _ => (oite (oeq (some v_net) (some ([] : List Tri))) (noGo (oret (bind2 (some v_points) (some v_number) m_beside))) (oret (Option.bind (olk (bind2 (some v_net) (some v_number) m_later_of)) m_in_turn))))
noncomputable def m_around (v_points : (List (Int × Int))) (v_net : (List Tri)) (v_number : Int) : Option (List Int) := retv (mb_around v_points v_net v_number)
theorem sc_around : FnScope ["points", "net", "number"] ["points", "net", "number"] (defScope s_around) := ⟨rfl, rfl, rfl, by decide +kernel, rfl, by decide +kernel, by decide +kernel⟩
theorem ok_around (B : Fr mg) (h_need_number : Has P w K mg base 1 "need_number" ["points", "number"] (spOf K false (C2 m_need_number))) (h_beside : Has P w K mg base 6 "beside" ["points", "number"] (spOf K true (C2 m_beside))) (h_later_of : Has P w K mg base 1 "later_of" ["net", "number"] (spOf K true (C2 m_later_of))) (h_in_turn : Has P w K mg base 1 "in_turn" ["later"] (spOf K true (C1 m_in_turn))) (F : FunD K "around" "around" (defArgs s_around) (defBody s_around) (defScope s_around) [] [] fa fd) : FnOk P w K mg base CX0 7 fa fd ["points", "net", "number"] (spOf K true (C3 m_around)) :=
  fn_ok3 (m := mb_around) (post := fun _ => []) F sc_around (by decide) rfl fun cdv A outer s H E hr v_points v_net v_number => (bs_expr (ep_has h_need_number hr (by decide) (ag_cons (ep_var 0) (ag_cons (ep_var 2) ag_nil)) c2) (bs_ifR (Cq.t (cq_eqD hr.units (ep_var 1) (EpF.ep (ep_lst al_nil))) _) (bs_retF (ep_hasF h_beside hr (by decide) (ag_cons (ep_var 0) (ag_cons (ep_var 2) ag_nil)) c2)) (bs_retF (ep_hasF h_in_turn hr (by decide) (ag_cons (ep_lock (ep_hasD h_later_of hr (by decide) (ag_cons (ep_var 1) (ag_cons (ep_var 2) ag_nil)) c2)) ag_nil) c1))))
noncomputable def mb_walked (v_points : (List (Int × Int))) (v_net : (List Tri)) (v_start : Int) (v_spot : (Int × Int)) : Option (Out (List Int) Unit) := (Option.bind (bind2 (some v_points) (some v_start) m_need_number) fun _ => (Option.bind (ocons (some v_start) (some ([] : List Int))) fun (v_found : (List Int)) => (thenO (loopW (fun (g1 : ((List Int))) => (some true)) (fun (g1 : ((List Int))) => (Option.bind (bind2 (oidx (some v_points) (oidx (some g1) (oneg (some (1 : Int))))) (some v_spot) m_far) fun (v_here : Int) => (Option.bind (Option.bind (bind3 (some v_points) (some v_net) (oidx (some g1) (oneg (some (1 : Int)))) m_around) fun xs3 => if capOk xs3.length then lcM oYes (fun (x2 : Int) => (omk2 (bind2 (oidx (some v_points) (some x2)) (some v_spot) m_far) (some x2))) xs3 else none) fun (v_some : (List (Int × Int))) => (Option.bind (Option.bind (some v_some) fun xs5 => if capOk xs5.length then lcM (fun (x4 : (Int × Int)) => (olt (ofst (some x4)) (some v_here))) (fun (x4 : (Int × Int)) => (some x4)) xs5 else none) fun (v_some : (List (Int × Int))) => (oite (oeq (some v_some) (some ([] : List (Int × Int)))) (noGo (some (.ret g1))) (Option.bind (oapp g1 (osnd (ominL (some v_some)))) fun (v_found : List Int) => (some (.go (v_found) : Out (List Int) ((List Int)))))))))) (v_found)) fun (g1 : ((List Int))) => none)))
noncomputable def m_walked (v_points : (List (Int × Int))) (v_net : (List Tri)) (v_start : Int) (v_spot : (Int × Int)) : Option (List Int) := retv (mb_walked v_points v_net v_start v_spot)
theorem sc_walked : FnScope ["points", "net", "start", "spot", "found", "here", "some", "one", "pair"] ["points", "net", "start", "spot"] (defScope s_walked) := ⟨rfl, rfl, rfl, by decide +kernel, rfl, by decide +kernel, by decide +kernel⟩
theorem ok_walked (B : Fr mg) (h_need_number : Has P w K mg base 1 "need_number" ["points", "number"] (spOf K false (C2 m_need_number))) (h_far : Has P w K mg base 1 "far" ["a", "b"] (spOf K false (C2 m_far))) (h_around : Has P w K mg base 7 "around" ["points", "net", "number"] (spOf K true (C3 m_around))) (F : FunD K "walked" "walked" (defArgs s_walked) (defBody s_walked) (defScope s_walked) [] [] fa fd) : FnOk P w K mg base CX0 8 fa fd ["points", "net", "start", "spot"] (spOf K true (C4 m_walked)) :=
  fn_ok4 (m := mb_walked) (post := fun _ => []) F sc_walked (by decide) rfl fun cdv A outer s H E hr v_points v_net v_start v_spot => (bs_expr (ep_has h_need_number hr (by decide) (ag_cons (ep_var 0) (ag_cons (ep_var 2) ag_nil)) c2) (bs_asgM 4 sc_walked.nd (ep_lst (al_cons (ep_var 2) al_nil)) fun v_found => (bs_while (fun (g1 : ((List Int))) => [.imm (α := (List (Int × Int))) v_points, .imm (α := (List Tri)) v_net, .imm (α := Int) v_start, .imm (α := (Int × Int)) v_spot, .mut (ML.mk (α := Int) g1), .any, .any, .any, .any]) (v_found) (Wk.same (Wk.same (Wk.same (Wk.same (Wk.same (Wk.same (Wk.same (Wk.same (Wk.same Wk.nil))))))))) (fun g1 => (tp_val ep_bl)) (fun g1 => (bs_asg 5 sc_walked.nd (ep_has h_far hr (by decide) (ag_cons (ep_idx (Ep.lp (ep_var 0)) (ep_idx (lp_var 4) (ep_neg ep_int))) (ag_cons (ep_var 3) ag_nil)) c2) fun v_here => (bs_asgLc 6 rfl sc_walked.nd (lc_C [("one", 7)] (blkOk_by (N := ["points", "net", "start", "spot", "found", "here", "some", "one", "pair"]) (sc := defScope s_walked) (by decide +kernel)) (EpF.lp (ep_hasF h_around hr (by decide) (ag_cons (ep_var 0) (ag_cons (ep_var 1) (ag_cons (ep_idx (lp_var 4) (ep_neg ep_int)) ag_nil))) c3)) (fun _ _ _ _ _ => (pg_name (i := 7) sc_walked.nd rfl (by first | exact Or.inl rfl | exact Or.inr rfl))) (tg_name 7) (by intro j hj; simpa using hj) (fun _ _ _ _ _ => pts_nil) tts_nil (fun x2 _ _ _ _ _ => (ep_pair (ep_has h_far hr (by decide) (ag_cons (ep_idx (Ep.lp (ep_var 0)) (ep_var 7)) (ag_cons (ep_var 3) ag_nil)) c2) (ep_var 7))) (by intro _; rfl)) fun v_some => (bs_asgLc 6 rfl sc_walked.nd (lc_C [("pair", 8)] (blkOk_by (N := ["points", "net", "start", "spot", "found", "here", "some", "one", "pair"]) (sc := defScope s_walked) (by decide +kernel)) (Ep.lp (ep_var 6)) (fun _ _ _ _ _ => (pg_name (i := 8) sc_walked.nd rfl (by first | exact Or.inl rfl | exact Or.inr rfl))) (tg_name 8) (by intro j hj; simpa using hj) pts_w (tts_one fun x4 _ _ _ _ _ => (Cq.t (cq_lt (ep_fst (ep_var 8)) (ep_var 5)) _)) (fun x4 _ _ _ _ _ => (ep_var 8)) (by intro _; rfl)) fun v_some => (bs_ifR (Cq.t (cq_eqD hr.units (ep_var 6) (EpF.ep (ep_lst al_nil))) _) (bs_retM 4) (bs_app (xs := ML.mk (α := Int) g1) 4 (ep_snd (ep_minL rfl hr.units (by rfl) B.b_min (Ep.lp (ep_var 6)))) fun v_found => (bs_go (Wk.same (Wk.same (Wk.same (Wk.same (Wk.same (Wk.any (Wk.any (Wk.same (Wk.same Wk.nil)))))))))))))))) (fun g1 => bs_none) .never)))
noncomputable def mb_tops (v_net : (List Tri)) : Option (Out (Du (Int × Int) Int) Unit) := (Option.bind (some v_net) fun xs3 => thenO (loopL (fun (x2 : Tri) (g1 : ((List ((Int × Int) × Int)))) => (Option.bind (odput (MD.mk (κ := (Int × Int)) (β := Int) g1) (omk2 (some x2.a) (some x2.b)) (some x2.c)) fun (v_found : List ((Int × Int) × Int)) => (Option.bind (odput (MD.mk (κ := (Int × Int)) (β := Int) v_found) (omk2 (some x2.b) (some x2.c)) (some x2.a)) fun (v_found : List ((Int × Int) × Int)) => (Option.bind (odput (MD.mk (κ := (Int × Int)) (β := Int) v_found) (omk2 (some x2.c) (some x2.a)) (some x2.b)) fun (v_found : List ((Int × Int) × Int)) => (some (.go (v_found) : Out (Du (Int × Int) Int) ((List ((Int × Int) × Int))))))))) xs3 (([] : List ((Int × Int) × Int)))) fun (g1 : ((List ((Int × Int) × Int)))) => (some (.ret (Du.mk (κ := (Int × Int)) (β := Int) g1))))
noncomputable def m_tops (v_net : (List Tri)) : Option (Du (Int × Int) Int) := retv (mb_tops v_net)
theorem sc_tops : FnScope ["net", "found", "a", "b", "c"] ["net"] (defScope s_tops) := ⟨rfl, rfl, rfl, by decide +kernel, rfl, by decide +kernel, by decide +kernel⟩
theorem ok_tops (B : Fr mg)  (F : FunD K "tops" "tops" (defArgs s_tops) (defBody s_tops) (defScope s_tops) [] [] fa fd) : FnOk P w K mg base CX0 1 fa fd ["net"] (spOf K true (C1 m_tops)) :=
  fn_ok1 (m := mb_tops) (post := fun _ => []) F sc_tops (by decide) rfl fun cdv A outer s H E hr v_net => (bs_newD (κ := (Int × Int)) (δ := Int) 1 sc_tops.nd (bs_for (fun (g1 : ((List ((Int × Int) × Int)))) => [.imm (α := (List Tri)) v_net, .mut (MA.mk (l0 := none) (κ := (Int × Int)) (β := Int) g1), .any, .any, .any]) (([] : List ((Int × Int) × Int))) (pg_tup rfl (pgs_cons (pg_name (i := 2) sc_tops.nd rfl (by first | exact Or.inl rfl | exact Or.inr rfl)) (pgs_cons (pg_name (i := 3) sc_tops.nd rfl (by first | exact Or.inl rfl | exact Or.inr rfl)) (pgs_cons (pg_name (i := 4) sc_tops.nd rfl (by first | exact Or.inl rfl | exact Or.inr rfl)) pgs_nil)))) (tg_tri 2 3 4) (ep_var 0) (Wk.same (Wk.same (Wk.same (Wk.same (Wk.same Wk.nil))))) (fun x2 g1 => (bs_dput (κ := (Int × Int)) (δ := Int) (m := MA.mk (l0 := none) (κ := (Int × Int)) (β := Int) g1) 1 hr.unit1 (ep_pair (ep_var 2) (ep_var 3)) (ep_var 4) fun v_found => (bs_dput (κ := (Int × Int)) (δ := Int) (m := MA.mk (l0 := none) (κ := (Int × Int)) (β := Int) v_found) 1 hr.unit1 (ep_pair (ep_var 3) (ep_var 4)) (ep_var 2) fun v_found => (bs_dput (κ := (Int × Int)) (δ := Int) (m := MA.mk (l0 := none) (κ := (Int × Int)) (β := Int) v_found) 1 hr.unit1 (ep_pair (ep_var 4) (ep_var 2)) (ep_var 3) fun v_found => (bs_go (Wk.same (Wk.same (Wk.any (Wk.any (Wk.any Wk.nil)))))))))) (fun g1 => (bs_retD (d := MA.mk (l0 := none) (κ := (Int × Int)) (β := Int) g1) 1)) .never rfl))
noncomputable def mb_is_wrong (v_points : (List (Int × Int))) (v_top : (Du (Int × Int) Int)) (v_side : (Int × Int)) : Option (Out Bool Unit) := (Option.bind (some v_side) fun (y1 : (Int × Int)) => (Option.bind (odgetU (some v_top) (some v_side)) fun (v_c : Int) => (Option.bind (odgetU (some v_top) (omk2 (some y1.2) (some y1.1))) fun (v_d : Int) => (Option.bind (bind4 (oidx (some v_points) (some y1.1)) (oidx (some v_points) (some y1.2)) (oidx (some v_points) (some v_c)) (oidx (some v_points) (some v_d)) m_ring) fun (v_found : Int) => (oret (oor (ogt (some v_found) (some (0 : Int))) (oand (oeq (some v_found) (some (0 : Int))) (olt (omin2 (some v_c) (some v_d)) (omin2 (some y1.1) (some y1.2))))))))))
noncomputable def m_is_wrong (v_points : (List (Int × Int))) (v_top : (Du (Int × Int) Int)) (v_side : (Int × Int)) : Option Bool := retv (mb_is_wrong v_points v_top v_side)
theorem sc_is_wrong : FnScope ["points", "top", "side", "a", "b", "c", "d", "found"] ["points", "top", "side"] (defScope s_is_wrong) := ⟨rfl, rfl, rfl, by decide +kernel, rfl, by decide +kernel, by decide +kernel⟩
theorem ok_is_wrong (B : Fr mg) (h_ring : Has P w K mg base 3 "ring" ["a", "b", "c", "d"] (spOf K false (C4 m_ring))) (F : FunD K "is_wrong" "is_wrong" (defArgs s_is_wrong) (defBody s_is_wrong) (defScope s_is_wrong) [] [] fa fd) : FnOk P w K mg base CX0 4 fa fd ["points", "top", "side"] (spOf K false (C3 m_is_wrong)) :=
  fn_ok3 (m := mb_is_wrong) (post := fun _ => []) F sc_is_wrong (by decide) rfl fun cdv A outer s H E hr v_points v_top v_side => (bs_unp (pg_tup rfl (pgs_cons (pg_name (i := 3) sc_is_wrong.nd rfl (by first | exact Or.inl rfl | exact Or.inr rfl)) (pgs_cons (pg_name (i := 4) sc_is_wrong.nd rfl (by first | exact Or.inl rfl | exact Or.inr rfl)) pgs_nil))) (tg_pair 3 4) (ep_var 2) fun y1 => (bs_asg 5 sc_is_wrong.nd (ep_dgetU hr.unit1 (ep_var 1) (ep_var 2) (fun _ _ => rfl)) fun v_c => (bs_asg 6 sc_is_wrong.nd (ep_dgetU hr.unit1 (ep_var 1) (ep_pair (ep_var 4) (ep_var 3)) (fun _ _ => rfl)) fun v_d => (bs_asg 7 sc_is_wrong.nd (ep_has h_ring hr (by decide) (ag_cons (ep_idx (Ep.lp (ep_var 0)) (ep_var 3)) (ag_cons (ep_idx (Ep.lp (ep_var 0)) (ep_var 4)) (ag_cons (ep_idx (Ep.lp (ep_var 0)) (ep_var 5)) (ag_cons (ep_idx (Ep.lp (ep_var 0)) (ep_var 6)) ag_nil)))) c4) fun v_found => (bs_ret (ep_or (Cq.e (cq_gt (ep_var 7) ep_int) _) (ep_one (ep_and (Cq.e (cq_eqS (ep_var 7) ep_int) _) (ep_one (Cq.e (cq_lt (ep_min2 rfl (by rfl) B.b_min (ep_var 5) (ep_var 6)) (ep_min2 rfl (by rfl) B.b_min (ep_var 3) (ep_var 4))) _))))))))))
noncomputable def mb_wrong_of (v_points : (List (Int × Int))) (v_top : (Du (Int × Int) Int)) (v_some : (List (Int × Int))) : Option (Out (List (Int × Int)) Unit) := (Option.bind (some ([] : List (Int × Int))) fun (v_found : (List (Int × Int))) => (Option.bind (some v_some) fun xs4 => thenO (loopL (fun (x2 : (Int × Int)) (g1 : ((List (Int × Int)))) => (Option.bind (omk2 (omin2 (some x2.1) (some x2.2)) (omax2 (some x2.1) (some x2.2))) fun (v_side : (Int × Int)) => (Option.bind (oand (odinU (omk2 (some x2.1) (some x2.2)) (some v_top)) (odinU (omk2 (some x2.2) (some x2.1)) (some v_top))) fun (v_both : Bool) => (thenO (oite (oand (some v_both) (oand (onin (some v_side) (some g1)) (bind3 (some v_points) (some v_top) (some v_side) m_is_wrong))) (Option.bind (oapp g1 (some v_side)) fun (v_found : List (Int × Int)) => (some (.go (v_found) : Out (List (Int × Int)) ((List (Int × Int)))))) (some (.go (g1) : Out (List (Int × Int)) ((List (Int × Int)))))) fun (g3 : ((List (Int × Int)))) => (some (.go (g3) : Out (List (Int × Int)) ((List (Int × Int))))))))) xs4 (v_found)) fun (g1 : ((List (Int × Int)))) => (some (.ret g1))))
noncomputable def m_wrong_of (v_points : (List (Int × Int))) (v_top : (Du (Int × Int) Int)) (v_some : (List (Int × Int))) : Option (List (Int × Int)) := retv (mb_wrong_of v_points v_top v_some)
theorem sc_wrong_of : FnScope ["points", "top", "some", "found", "a", "b", "side", "both"] ["points", "top", "some"] (defScope s_wrong_of) := ⟨rfl, rfl, rfl, by decide +kernel, rfl, by decide +kernel, by decide +kernel⟩
theorem ok_wrong_of (B : Fr mg) (h_is_wrong : Has P w K mg base 4 "is_wrong" ["points", "top", "side"] (spOf K false (C3 m_is_wrong))) (F : FunD K "wrong_of" "wrong_of" (defArgs s_wrong_of) (defBody s_wrong_of) (defScope s_wrong_of) [] [] fa fd) : FnOk P w K mg base CX0 5 fa fd ["points", "top", "some"] (spOf K true (C3 m_wrong_of)) :=
  fn_ok3 (m := mb_wrong_of) (post := fun _ => []) F sc_wrong_of (by decide) rfl fun cdv A outer s H E hr v_points v_top v_some => (bs_asgM 3 sc_wrong_of.nd (ep_lst al_nil) fun v_found => (bs_for (fun (g1 : ((List (Int × Int)))) => [.imm (α := (List (Int × Int))) v_points, .imm (α := (Du (Int × Int) Int)) v_top, .imm (α := (List (Int × Int))) v_some, .mut (ML.mk (α := (Int × Int)) g1), .any, .any, .any, .any]) (v_found) (pg_tup rfl (pgs_cons (pg_name (i := 4) sc_wrong_of.nd rfl (by first | exact Or.inl rfl | exact Or.inr rfl)) (pgs_cons (pg_name (i := 5) sc_wrong_of.nd rfl (by first | exact Or.inl rfl | exact Or.inr rfl)) pgs_nil))) (tg_pair 4 5) (ep_var 2) (Wk.same (Wk.same (Wk.same (Wk.same (Wk.same (Wk.same (Wk.same (Wk.same Wk.nil)))))))) (fun x2 g1 => (bs_asg 6 sc_wrong_of.nd (ep_pair (ep_min2 rfl (by rfl) B.b_min (ep_var 4) (ep_var 5)) (ep_max2 rfl (by rfl) B.b_max (ep_var 4) (ep_var 5))) fun v_side => (bs_asg 7 sc_wrong_of.nd (ep_and (Cq.e (cq_dinU hr.unit1 (ep_pair (ep_var 4) (ep_var 5)) (ep_var 1)) _) (ep_one (Cq.e (cq_dinU hr.unit1 (ep_pair (ep_var 5) (ep_var 4)) (ep_var 1)) _))) fun v_both => (bs_ifG (post1 := (fun (g3 : ((List (Int × Int)))) => [.imm (α := (List (Int × Int))) v_points, .imm (α := (Du (Int × Int) Int)) v_top, .imm (α := (List (Int × Int))) v_some, .mut (ML.mk (α := (Int × Int)) g3), .imm (α := Int) x2.1, .imm (α := Int) x2.2, .imm (α := (Int × Int)) v_side, .imm (α := Bool) v_both])) (tp_w (wp_and (tp_val (ep_var 7)) (wp_and (Cq.t (cq_nin hr.units65 (ep_var 6) (lp_var 3)) _) (wp_and1 (tp_val (ep_has h_is_wrong hr (by decide) (ag_cons (ep_var 0) (ag_cons (ep_var 1) (ag_cons (ep_var 6) ag_nil))) c3)))))) (bs_app (xs := ML.mk (α := (Int × Int)) g1) 3 (ep_var 6) fun v_found => (bs_go (Wk.same (Wk.same (Wk.same (Wk.same (Wk.same (Wk.same (Wk.same (Wk.same Wk.nil)))))))))) (bs_go (Wk.same (Wk.same (Wk.same (Wk.same (Wk.same (Wk.same (Wk.same (Wk.same Wk.nil))))))))) fun g3 => (bs_go (Wk.same (Wk.same (Wk.same (Wk.same (Wk.any (Wk.any (Wk.any (Wk.any Wk.nil))))))))))))) (fun g1 => (bs_retM 3)) .never rfl))
noncomputable def mb_turned_over (v_top : List ((Int × Int) × Int)) (v_side : (Int × Int)) : Option (Out (RetM (List (Int × Int)) (Int × Int) Int) Unit) := (Option.bind (some v_side) fun (y1 : (Int × Int)) => (unp2 (odpop (MD.mk (κ := (Int × Int)) (β := Int) v_top) (omk2 (some y1.1) (some y1.2))) fun (v_c : Int) (v_top_2 : (List ((Int × Int) × Int))) => (unp2 (odpop (MD.mk (κ := (Int × Int)) (β := Int) v_top_2) (omk2 (some y1.2) (some y1.1))) fun (v_d : Int) (v_top_3 : (List ((Int × Int) × Int))) => (Option.bind (ocons (omk3 (some y1.1) (some v_d) (some v_c)) (ocons (omk3 (some v_d) (some y1.2) (some v_c)) (some ([] : List Tri)))) fun xs6 => thenO (loopL (fun (x5 : Tri) (g4 : ((List ((Int × Int) × Int)))) => (Option.bind (odput (MD.mk (κ := (Int × Int)) (β := Int) g4) (omk2 (some x5.a) (some x5.b)) (some x5.c)) fun (v_top : List ((Int × Int) × Int)) => (Option.bind (odput (MD.mk (κ := (Int × Int)) (β := Int) v_top) (omk2 (some x5.b) (some x5.c)) (some x5.a)) fun (v_top : List ((Int × Int) × Int)) => (Option.bind (odput (MD.mk (κ := (Int × Int)) (β := Int) v_top) (omk2 (some x5.c) (some x5.a)) (some x5.b)) fun (v_top : List ((Int × Int) × Int)) => (some (.go (v_top) : Out (RetM (List (Int × Int)) (Int × Int) Int) ((List ((Int × Int) × Int))))))))) xs6 (v_top_3)) fun (g4 : ((List ((Int × Int) × Int)))) => (Option.bind (ocons (omk2 (some y1.1) (some v_d)) (ocons (omk2 (some v_d) (some y1.2)) (ocons (omk2 (some y1.2) (some v_c)) (ocons (omk2 (some v_c) (some y1.1)) (ocons (omk2 (some v_c) (some v_d)) (some ([] : List (Int × Int)))))))) fun (x_ : (List (Int × Int))) => some (.ret (RetM.mk x_ g4)))))))
noncomputable def m_turned_over (v_top : List ((Int × Int) × Int)) (v_side : (Int × Int)) : Option ((List (Int × Int)) × List ((Int × Int) × Int)) := retM (mb_turned_over v_top v_side)
theorem sc_turned_over : FnScope ["top", "side", "a", "b", "c", "d", "one", "other", "third"] ["top", "side"] (defScope s_turned_over) := ⟨rfl, rfl, rfl, by decide +kernel, rfl, by decide +kernel, by decide +kernel⟩
theorem ok_turned_over (B : Fr mg)  (F : FunD K "turned_over" "turned_over" (defArgs s_turned_over) (defBody s_turned_over) (defScope s_turned_over) [] [] fa fd) : FnOk P w K mg base CX0 1 fa fd ["top", "side"] (spM K m_turned_over) :=
  fn_okM (m := mb_turned_over) (post := fun _ => []) F sc_turned_over (by decide) rfl fun cdv A outer s H E hr l_ v_top v_side => (letI : Rep (RetM (List (Int × Int)) (Int × Int) Int) := repM l_; (bs_unp (pg_tup rfl (pgs_cons (pg_name (i := 2) sc_turned_over.nd rfl (by first | exact Or.inl rfl | exact Or.inr rfl)) (pgs_cons (pg_name (i := 3) sc_turned_over.nd rfl (by first | exact Or.inl rfl | exact Or.inr rfl)) pgs_nil))) (tg_pair 2 3) (ep_var 1) fun y1 => (bs_asgPop (m := MA.mk (l0 := some l_) (κ := (Int × Int)) (β := Int) v_top) 4 0 sc_turned_over.nd hr.unit1 (ep_pair (ep_var 2) (ep_var 3)) fun v_c v_top_2 => (bs_asgPop (m := MA.mk (l0 := some l_) (κ := (Int × Int)) (β := Int) v_top_2) 5 0 sc_turned_over.nd hr.unit1 (ep_pair (ep_var 3) (ep_var 2)) fun v_d v_top_3 => (bs_forT (fun (g4 : ((List ((Int × Int) × Int)))) => [.mut (MA.mk (l0 := some l_) (κ := (Int × Int)) (β := Int) g4), .imm (α := (Int × Int)) v_side, .imm (α := Int) y1.1, .imm (α := Int) y1.2, .imm (α := Int) v_c, .imm (α := Int) v_d, .any, .any, .any]) (v_top_3) (pg_tup rfl (pgs_cons (pg_name (i := 6) sc_turned_over.nd rfl (by first | exact Or.inl rfl | exact Or.inr rfl)) (pgs_cons (pg_name (i := 7) sc_turned_over.nd rfl (by first | exact Or.inl rfl | exact Or.inr rfl)) (pgs_cons (pg_name (i := 8) sc_turned_over.nd rfl (by first | exact Or.inl rfl | exact Or.inr rfl)) pgs_nil)))) (tg_tri 6 7 8) (up_tup (al_cons (ep_tri (ep_var 2) (ep_var 5) (ep_var 4)) (al_cons (ep_tri (ep_var 5) (ep_var 3) (ep_var 4)) al_nil))) (Wk.same (Wk.same (Wk.same (Wk.same (Wk.same (Wk.same (Wk.same (Wk.same (Wk.same Wk.nil))))))))) (fun x5 g4 => (bs_dput (κ := (Int × Int)) (δ := Int) (m := MA.mk (l0 := some l_) (κ := (Int × Int)) (β := Int) g4) 0 hr.unit1 (ep_pair (ep_var 6) (ep_var 7)) (ep_var 8) fun v_top => (bs_dput (κ := (Int × Int)) (δ := Int) (m := MA.mk (l0 := some l_) (κ := (Int × Int)) (β := Int) v_top) 0 hr.unit1 (ep_pair (ep_var 7) (ep_var 8)) (ep_var 6) fun v_top => (bs_dput (κ := (Int × Int)) (δ := Int) (m := MA.mk (l0 := some l_) (κ := (Int × Int)) (β := Int) v_top) 0 hr.unit1 (ep_pair (ep_var 8) (ep_var 6)) (ep_var 7) fun v_top => (bs_go (Wk.same (Wk.same (Wk.same (Wk.same (Wk.same (Wk.same (Wk.any (Wk.any (Wk.any Wk.nil)))))))))))))) (fun g4 => (bs_retMD (m := MA.mk (l0 := some l_) (κ := (Int × Int)) (β := Int) g4) 0 (EpF.ep (ep_lst (al_cons (ep_pair (ep_var 2) (ep_var 5)) (al_cons (ep_pair (ep_var 5) (ep_var 3)) (al_cons (ep_pair (ep_var 3) (ep_var 4)) (al_cons (ep_pair (ep_var 4) (ep_var 2)) (al_cons (ep_pair (ep_var 4) (ep_var 5)) al_nil))))))))) .never rfl)))))
noncomputable def mb_mended (v_points : (List (Int × Int))) (v_net : (List Tri)) : Option (Out ((List (Int × Int)) × (List Tri)) Unit) := (Option.bind (dkv (Option.bind (some v_net) m_tops)) fun (v_top : List ((Int × Int) × Int)) => (Option.bind (bind3 (some v_points) (some (Du.mk (κ := (Int × Int)) (β := Int) v_top)) (osortU (some (Du.mk (κ := (Int × Int)) (β := Int) v_top))) m_wrong_of) fun (v_bad : (List (Int × Int))) => (Option.bind (some ([] : List (Int × Int))) fun (v_swaps : (List (Int × Int))) => (thenO (loopW (fun (g1 : ((List (Int × Int)) × (List ((Int × Int) × Int)) × (List (Int × Int)))) => (one_ (some g1.2.2) (some ([] : List (Int × Int))))) (fun (g1 : ((List (Int × Int)) × (List ((Int × Int) × Int)) × (List (Int × Int)))) => (Option.bind (ominL (some g1.2.2)) fun (v_side : (Int × Int)) => (Option.bind (oapp g1.1 (some v_side)) fun (v_swaps : List (Int × Int)) => (unp2 (Option.bind (some v_side) (m_turned_over g1.2.1)) fun (v_touched : (List (Int × Int))) (v_top_2 : (List ((Int × Int) × Int))) => (Option.bind (ocat (Option.bind (some v_touched) fun xs4 => if capOk xs4.length then lcM oYes (fun (x3 : (Int × Int)) => (omk2 (opmin (some x3)) (opmax (some x3)))) xs4 else none) (ocons (some v_side) (some ([] : List (Int × Int))))) fun (v_near_by : (List (Int × Int))) => (Option.bind (ocat (Option.bind (some g1.2.2) fun xs6 => if capOk xs6.length then lcM (fun (x5 : (Int × Int)) => (onin (some x5) (some v_near_by))) (fun (x5 : (Int × Int)) => (some x5)) xs6 else none) (bind3 (some v_points) (some (Du.mk (κ := (Int × Int)) (β := Int) v_top_2)) (some v_touched) m_wrong_of)) fun (v_bad : (List (Int × Int))) => (some (.go (v_swaps, v_top_2, v_bad) : Out ((List (Int × Int)) × (List Tri)) ((List (Int × Int)) × (List ((Int × Int) × Int)) × (List (Int × Int))))))))))) (v_swaps, v_top, v_bad)) fun (g1 : ((List (Int × Int)) × (List ((Int × Int) × Int)) × (List (Int × Int)))) => (oret (omk2 (some g1.1) (osortS (Option.bind (okeys (some (Dc.mk (κ := (Int × Int)) (β := Int) g1.2.1))) fun xs8 => if capOk xs8.length then lcM oYes (fun (x7 : (Int × Int)) => (Option.bind (omk3 (some x7.1) (some x7.2) (odget (some (Dc.mk (κ := (Int × Int)) (β := Int) g1.2.1)) (omk2 (some x7.1) (some x7.2)))) m_rolled)) xs8 else none))))))))
noncomputable def m_mended (v_points : (List (Int × Int))) (v_net : (List Tri)) : Option ((List (Int × Int)) × (List Tri)) := retv (mb_mended v_points v_net)
theorem sc_mended : FnScope ["points", "net", "top", "bad", "swaps", "side", "touched", "near_by", "pair", "one", "a", "b"] ["points", "net"] (defScope s_mended) := ⟨rfl, rfl, rfl, by decide +kernel, rfl, by decide +kernel, by decide +kernel⟩
theorem ok_mended (B : Fr mg) (h_tops : Has P w K mg base 1 "tops" ["net"] (spOf K true (C1 m_tops))) (h_wrong_of : Has P w K mg base 5 "wrong_of" ["points", "top", "some"] (spOf K true (C3 m_wrong_of))) (h_turned_over : Has P w K mg base 1 "turned_over" ["top", "side"] (spM K m_turned_over)) (h_rolled : Has P w K mg base 1 "rolled" ["triple"] (spOf K false (C1 m_rolled))) (F : FunD K "mended" "mended" (defArgs s_mended) (defBody s_mended) (defScope s_mended) [] [] fa fd) : FnOk P w K mg base CX0 6 fa fd ["points", "net"] (spOf K false (C2 m_mended)) :=
  fn_ok2 (m := mb_mended) (post := fun _ => []) F sc_mended (by decide) rfl fun cdv A outer s H E hr v_points v_net => (bs_asgDk 2 sc_mended.nd (ep_hasD h_tops hr (by decide) (ag_cons (ep_var 1) ag_nil) c1) fun v_top => (bs_asg 3 sc_mended.nd (EpF.ep (ep_borrowF (m := MA.mk (l0 := none) (κ := (Int × Int)) (β := Int) v_top) 2 (ep_hasF h_wrong_of hr (by decide) (ag_cons (ep_var 0) (ag_cons (ep_var 2) (ag_cons (EpF.ep (ep_sortedD rfl hr.units (by rfl) B.b_sorted (ep_var 2))) ag_nil))) c3))) fun v_bad => (bs_asgM 4 sc_mended.nd (ep_lst al_nil) fun v_swaps => (bs_while (fun (g1 : ((List (Int × Int)) × (List ((Int × Int) × Int)) × (List (Int × Int)))) => [.imm (α := (List (Int × Int))) v_points, .imm (α := (List Tri)) v_net, .mut (MA.mk (l0 := none) (κ := (Int × Int)) (β := Int) g1.2.1), .imm (α := (List (Int × Int))) g1.2.2, .mut (ML.mk (α := (Int × Int)) g1.1), .any, .any, .any, .any, .any, .any, .any]) (v_swaps, v_top, v_bad) (Wk.same (Wk.same (Wk.same (Wk.same (Wk.same (Wk.same (Wk.same (Wk.same (Wk.same (Wk.same (Wk.same (Wk.same Wk.nil)))))))))))) (fun g1 => (Cq.t (cq_neD hr.units (ep_var 3) (EpF.ep (ep_lst al_nil))) _)) (fun g1 => (bs_asg 5 sc_mended.nd (ep_minL rfl hr.units (by rfl) B.b_min (Ep.lp (ep_var 3))) fun v_side => (bs_app (xs := ML.mk (α := (Int × Int)) g1.1) 4 (ep_var 5) fun v_swaps => (bs_hasM (d := MA.mk (l0 := none) (κ := (Int × Int)) (β := Int) g1.2.1) 6 2 sc_mended.nd h_turned_over hr (by decide) (ep_var 5) fun v_touched v_top_2 => (bs_asg 7 sc_mended.nd (EpF.ep (ep_cat (EpF.lp (LcOk.ep rfl sc_mended.nd (lc_C [("pair", 8)] (blkOk_by (N := ["points", "net", "top", "bad", "swaps", "side", "touched", "near_by", "pair", "one", "a", "b"]) (sc := defScope s_mended) (by decide +kernel)) (Ep.lp (ep_var 6)) (fun _ _ _ _ _ => (pg_name (i := 8) sc_mended.nd rfl (by first | exact Or.inl rfl | exact Or.inr rfl))) (tg_name 8) (by intro j hj; simpa using hj) (fun _ _ _ _ _ => pts_nil) tts_nil (fun x3 _ _ _ _ _ => (ep_pair (ep_minP rfl hr.units (by rfl) B.b_min (ep_var 8)) (ep_maxP rfl hr.units (by rfl) B.b_max (ep_var 8)))) (by intro _; rfl)))) (EpF.lp (ep_lst (al_cons (ep_var 5) al_nil))))) fun v_near_by => (bs_asg 3 sc_mended.nd (EpF.ep (ep_borrowF (m := MA.mk (l0 := none) (κ := (Int × Int)) (β := Int) v_top_2) 2 (ep_cat (EpF.lp (LcOk.ep rfl sc_mended.nd (lc_C [("one", 9)] (blkOk_by (N := ["points", "net", "top", "bad", "swaps", "side", "touched", "near_by", "pair", "one", "a", "b"]) (sc := defScope s_mended) (by decide +kernel)) (Ep.lp (ep_var 3)) (fun _ _ _ _ _ => (pg_name (i := 9) sc_mended.nd rfl (by first | exact Or.inl rfl | exact Or.inr rfl))) (tg_name 9) (by intro j hj; simpa using hj) pts_w (tts_one fun x5 _ _ _ _ _ => (Cq.t (cq_nin hr.units65 (ep_var 9) (Ep.lp (ep_var 7))) _)) (fun x5 _ _ _ _ _ => (ep_var 9)) (by intro _; rfl)))) (EpF.lp (ep_hasF h_wrong_of hr (by decide) (ag_cons (ep_var 0) (ag_cons (ep_var 2) (ag_cons (ep_var 6) ag_nil))) c3))))) fun v_bad => (bs_go (Wk.same (Wk.same (Wk.same (Wk.same (Wk.same (Wk.any (Wk.any (Wk.any (Wk.same (Wk.same (Wk.same (Wk.same Wk.nil))))))))))))))))))) (fun g1 => (bs_freezeD (d := MA.mk (l0 := none) (κ := (Int × Int)) (β := Int) g1.2.1) 2 (bs_freeze (xs := ML.mk (α := (Int × Int)) g1.1) 4 (bs_ret (ep_pair (ep_var 4) (EpF.ep (ep_sortset rfl hr.units (by rfl) B.b_sorted (by rfl) B.b_set (EpF.lp (LcOk.ep rfl sc_mended.nd (lc_I [("a", 10), ("b", 11)] (blkOk_by (N := ["points", "net", "top", "bad", "swaps", "side", "touched", "near_by", "pair", "one", "a", "b"]) (sc := defScope s_mended) (by decide +kernel)) (it_keys (ep_var 2)) (fun _ _ _ _ _ => (pg_tup rfl (pgs_cons (pg_name (i := 10) sc_mended.nd rfl (by first | exact Or.inl rfl | exact Or.inr rfl)) (pgs_cons (pg_name (i := 11) sc_mended.nd rfl (by first | exact Or.inl rfl | exact Or.inr rfl)) pgs_nil)))) (tg_pair 10 11) (by intro j hj; simpa using hj) (fun _ _ _ _ _ => pts_nil) tts_nil (fun x7 _ _ _ _ _ => (ep_has h_rolled hr (by decide) (ag_cons (ep_tri (ep_var 10) (ep_var 11) (ep_dget hr.unit1 (ep_var 2) (ep_pair (ep_var 10) (ep_var 11)) (fun _ _ => rfl))) ag_nil) c1)) (by intro _; rfl))))))))))) .never))))
noncomputable def mb_near (v_points : (List (Int × Int))) : Option (Out (List Tri) Unit) := (oret (osnd (bind2 (some v_points) (Option.bind (some v_points) m_spread) m_mended)))
noncomputable def m_near (v_points : (List (Int × Int))) : Option (List Tri) := retv (mb_near v_points)
theorem sc_near : FnScope ["points"] ["points"] (defScope s_near) := ⟨rfl, rfl, rfl, by decide +kernel, rfl, by decide +kernel, by decide +kernel⟩
theorem ok_near (B : Fr mg) (h_spread : Has P w K mg base 5 "spread" ["points"] (spOf K true (C1 m_spread))) (h_mended : Has P w K mg base 6 "mended" ["points", "net"] (spOf K false (C2 m_mended))) (F : FunD K "near" "near" (defArgs s_near) (defBody s_near) (defScope s_near) [] [] fa fd) : FnOk P w K mg base CX0 7 fa fd ["points"] (spOf K false (C1 m_near)) :=
  fn_ok1 (m := mb_near) (post := fun _ => []) F sc_near (by decide) rfl fun cdv A outer s H E hr v_points => (bs_ret (ep_snd (ep_has h_mended hr (by decide) (ag_cons (ep_var 0) (ag_cons (EpF.ep (ep_hasF h_spread hr (by decide) (ag_cons (ep_var 0) ag_nil) c1)) ag_nil)) c2)))
noncomputable def mb__law_cell_at (v_l_script : Script) (v_l_k : Int) : Option (Out Int Unit) := (oite (olt (some v_l_k) (oslen (some v_l_script))) (noGo (oret (osidx (some v_l_script) (some v_l_k)))) (oret (some (0 : Int))))
noncomputable def m__law_cell_at (v_l_script : Script) (v_l_k : Int) : Option Int := retv (mb__law_cell_at v_l_script v_l_k)
theorem sc__law_cell_at : FnScope ["_law_script", "_law_k"] ["_law_script", "_law_k"] (defScope s__law_cell_at) := ⟨rfl, rfl, rfl, by decide +kernel, rfl, by decide +kernel, by decide +kernel⟩
theorem ok__law_cell_at (B : Fr mg)  (F : FunD K "_law_cell_at" "_law_cell_at" (defArgs s__law_cell_at) (defBody s__law_cell_at) (defScope s__law_cell_at) [] [] fa fd) : FnOk P w K mg base CX0 1 fa fd ["_law_script", "_law_k"] (spOf K false (C2 m__law_cell_at)) :=
  fn_ok2 (m := mb__law_cell_at) (post := fun _ => []) F sc__law_cell_at (by decide) rfl fun cdv A outer s H E hr v_l_script v_l_k => (bs_ifR (Cq.t (cq_lt (ep_var 1) (ep_slen (by rfl) B.b_len (ep_var 0))) _) (bs_ret (ep_sidx (ep_var 0) (ep_var 1))) (bs_ret ep_int))
noncomputable def mb__law_mixed (v_l_cell : Int) (v_l_k : Int) : Option (Out Int Unit) := (oret (omod (omul (oadd (oadd (some v_l_cell) (omul (some (61 : Int)) (some v_l_k))) (some (7 : Int))) (opow (some (1000003 : Int)) (some (3 : Int)))) (oadd (opow (some (10 : Int)) (some (24 : Int))) (some (7 : Int)))))
noncomputable def m__law_mixed (v_l_cell : Int) (v_l_k : Int) : Option Int := retv (mb__law_mixed v_l_cell v_l_k)
theorem sc__law_mixed : FnScope ["_law_cell", "_law_k"] ["_law_cell", "_law_k"] (defScope s__law_mixed) := ⟨rfl, rfl, rfl, by decide +kernel, rfl, by decide +kernel, by decide +kernel⟩
theorem ok__law_mixed (B : Fr mg)  (F : FunD K "_law_mixed" "_law_mixed" (defArgs s__law_mixed) (defBody s__law_mixed) (defScope s__law_mixed) [] [] fa fd) : FnOk P w K mg base CX0 1 fa fd ["_law_cell", "_law_k"] (spOf K false (C2 m__law_mixed)) :=
  fn_ok2 (m := mb__law_mixed) (post := fun _ => []) F sc__law_mixed (by decide) rfl fun cdv A outer s H E hr v_l_cell v_l_k => (bs_ret (ep_mod (ep_mul (ep_add (ep_add (ep_var 0) (ep_mul ep_int (ep_var 1))) ep_int) (ep_pow ep_int ep_int)) (ep_add (ep_pow ep_int ep_int) ep_int)))
noncomputable def mb__law_point (v_l_kind : Int) (v_l_number : Int) : Option (Out (Int × Int) Unit) := (oite (oeq (some v_l_kind) (some (0 : Int))) (noGo (oret (omk2 (omod (some v_l_number) (some (3 : Int))) (omod (ofdiv (some v_l_number) (some (3 : Int))) (some (3 : Int)))))) (oite (oeq (some v_l_kind) (some (1 : Int))) (noGo (oret (omk2 (osub (omod (some v_l_number) (some (5 : Int))) (some (1 : Int))) (omod (ofdiv (some v_l_number) (some (5 : Int))) (some (5 : Int)))))) (oite (oeq (some v_l_kind) (some (2 : Int))) (noGo (Option.bind (osub (omod (ofdiv (some v_l_number) (some (2000001 : Int))) (some (2000001 : Int))) (some (1000000 : Int))) fun (v_l_y : Int) => (oret (omk2 (osub (omod (some v_l_number) (some (2000001 : Int))) (some (1000000 : Int))) (some v_l_y))))) (oite (oeq (some v_l_kind) (some (3 : Int))) (noGo (Option.bind (ob2i (oeq (omod (ofdiv (some v_l_number) (some (9 : Int))) (some (5 : Int))) (some (1 : Int)))) fun (v_l_off : Int) => (oret (omk2 (osub (omod (some v_l_number) (some (9 : Int))) (some (4 : Int))) (oadd (omul (some (2 : Int)) (omod (some v_l_number) (some (9 : Int)))) (some v_l_off)))))) (oite (oand (oeq (some v_l_kind) (some (4 : Int))) (ogt (omod (ofdiv (some v_l_number) (some (12 : Int))) (some (6 : Int))) (some (0 : Int)))) (noGo (Option.bind (ocons (omk2 (some (5 : Int)) (some (0 : Int))) (ocons (omk2 (some (4 : Int)) (some (3 : Int))) (ocons (omk2 (some (3 : Int)) (some (4 : Int))) (ocons (omk2 (some (0 : Int)) (some (5 : Int))) (ocons (omk2 (oneg (some (3 : Int))) (some (4 : Int))) (ocons (omk2 (oneg (some (4 : Int))) (some (3 : Int))) (some ([] : List (Int × Int))))))))) fun (v_l_some : (List (Int × Int))) => (Option.bind (ocat (some v_l_some) (Option.bind (some v_l_some) fun xs2 => if capOk xs2.length then lcM oYes (fun (x1 : (Int × Int)) => (omk2 (oneg (some x1.1)) (oneg (some x1.2)))) xs2 else none)) fun (v_l_some : (List (Int × Int))) => (oret (oidx (some v_l_some) (omod (some v_l_number) (some (12 : Int)))))))) (oret (omk2 (osub (omod (some v_l_number) (some (12 : Int))) (some (6 : Int))) (osub (omod (ofdiv (some v_l_number) (some (12 : Int))) (some (9 : Int))) (some (4 : Int))))))))))
noncomputable def m__law_point (v_l_kind : Int) (v_l_number : Int) : Option (Int × Int) := retv (mb__law_point v_l_kind v_l_number)
theorem sc__law_point : FnScope ["_law_kind", "_law_number", "_law_y", "_law_off", "_law_some", "_law_x"] ["_law_kind", "_law_number"] (defScope s__law_point) := ⟨rfl, rfl, rfl, by decide +kernel, rfl, by decide +kernel, by decide +kernel⟩
theorem ok__law_point (B : Fr mg)  (F : FunD K "_law_point" "_law_point" (defArgs s__law_point) (defBody s__law_point) (defScope s__law_point) [] [] fa fd) : FnOk P w K mg base CX0 1 fa fd ["_law_kind", "_law_number"] (spOf K false (C2 m__law_point)) :=
  fn_ok2 (m := mb__law_point) (post := fun _ => []) F sc__law_point (by decide) rfl fun cdv A outer s H E hr v_l_kind v_l_number => (bs_ifR (Cq.t (cq_eqS (ep_var 0) ep_int) _) (bs_ret (ep_pair (ep_mod (ep_var 1) ep_int) (ep_mod (ep_fdiv (ep_var 1) ep_int) ep_int))) (bs_ifR (Cq.t (cq_eqS (ep_var 0) ep_int) _) (bs_ret (ep_pair (ep_sub (ep_mod (ep_var 1) ep_int) ep_int) (ep_mod (ep_fdiv (ep_var 1) ep_int) ep_int))) (bs_ifR (Cq.t (cq_eqS (ep_var 0) ep_int) _) (bs_asg 2 sc__law_point.nd (ep_sub (ep_mod (ep_fdiv (ep_var 1) ep_int) ep_int) ep_int) fun v_l_y => (bs_ret (ep_pair (ep_sub (ep_mod (ep_var 1) ep_int) ep_int) (ep_var 2)))) (bs_ifR (Cq.t (cq_eqS (ep_var 0) ep_int) _) (bs_asg 3 sc__law_point.nd (ep_intB (by rfl) B.b_int (Cq.e (cq_eqS (ep_mod (ep_fdiv (ep_var 1) ep_int) ep_int) ep_int) _)) fun v_l_off => (bs_ret (ep_pair (ep_sub (ep_mod (ep_var 1) ep_int) ep_int) (ep_add (ep_mul ep_int (ep_mod (ep_var 1) ep_int)) (ep_var 3))))) (bs_ifR (tp_w (wp_and (Cq.t (cq_eqS (ep_var 0) ep_int) _) (wp_and1 (Cq.t (cq_gt (ep_mod (ep_fdiv (ep_var 1) ep_int) ep_int) ep_int) _)))) (bs_asg 4 sc__law_point.nd (EpF.ep (ep_lst (al_cons (ep_pair ep_int ep_int) (al_cons (ep_pair ep_int ep_int) (al_cons (ep_pair ep_int ep_int) (al_cons (ep_pair ep_int ep_int) (al_cons (ep_pair (ep_neg ep_int) ep_int) (al_cons (ep_pair (ep_neg ep_int) ep_int) al_nil)))))))) fun v_l_some => (bs_asg 4 sc__law_point.nd (EpF.ep (ep_cat (Ep.lp (ep_var 4)) (EpF.lp (LcOk.ep rfl sc__law_point.nd (lc_C [("_law_x", 5), ("_law_y", 2)] (blkOk_by (N := ["_law_kind", "_law_number", "_law_y", "_law_off", "_law_some", "_law_x"]) (sc := defScope s__law_point) (by decide +kernel)) (Ep.lp (ep_var 4)) (fun _ _ _ _ _ => (pg_tup rfl (pgs_cons (pg_name (i := 5) sc__law_point.nd rfl (by first | exact Or.inl rfl | exact Or.inr rfl)) (pgs_cons (pg_name (i := 2) sc__law_point.nd rfl (by first | exact Or.inl rfl | exact Or.inr rfl)) pgs_nil)))) (tg_pair 5 2) (by intro j hj; simpa using hj) (fun _ _ _ _ _ => pts_nil) tts_nil (fun x1 _ _ _ _ _ => (ep_pair (ep_neg (ep_var 5)) (ep_neg (ep_var 2)))) (by intro _; rfl)))))) fun v_l_some => (bs_ret (ep_idx (Ep.lp (ep_var 4)) (ep_mod (ep_var 1) ep_int))))) (bs_ret (ep_pair (ep_sub (ep_mod (ep_var 1) ep_int) ep_int) (ep_sub (ep_mod (ep_fdiv (ep_var 1) ep_int) ep_int) ep_int))))))))
noncomputable def mb__law_grown (v_l_point_here : (Int × Int)) (v_l_kind : Int) (v_l_by : Int) (v_l_number : Int) : Option (Out (Int × Int) Unit) := (Option.bind (some v_l_point_here) fun (y1 : (Int × Int)) => (oite (oor (oeq (some v_l_kind) (some (2 : Int))) (olt (omod (some v_l_by) (some (4 : Int))) (some (2 : Int)))) (noGo (oret (some v_l_point_here))) (Option.bind (oidx (ocons (some (1000 : Int)) (ocons (some (50000 : Int)) (some ([] : List Int)))) (osub (omod (some v_l_by) (some (4 : Int))) (some (2 : Int)))) fun (v_l_times : Int) => (Option.bind (osub (omod (ofdiv (some v_l_by) (some (4 : Int))) (some (90001 : Int))) (some (45000 : Int))) fun (v_l_away : Int) => (Option.bind (ob2i (oeq (omod (ofdiv (some v_l_number) (opow (some (10 : Int)) (some (9 : Int)))) (some (9 : Int))) (some (1 : Int)))) fun (v_l_off : Int) => (oret (omk2 (oadd (oadd (omul (some y1.1) (some v_l_times)) (some v_l_away)) (some v_l_off)) (osub (omul (some y1.2) (some v_l_times)) (some v_l_away)))))))))
noncomputable def m__law_grown (v_l_point_here : (Int × Int)) (v_l_kind : Int) (v_l_by : Int) (v_l_number : Int) : Option (Int × Int) := retv (mb__law_grown v_l_point_here v_l_kind v_l_by v_l_number)
theorem sc__law_grown : FnScope ["_law_point_here", "_law_kind", "_law_by", "_law_number", "_law_x", "_law_y", "_law_times", "_law_away", "_law_off"] ["_law_point_here", "_law_kind", "_law_by", "_law_number"] (defScope s__law_grown) := ⟨rfl, rfl, rfl, by decide +kernel, rfl, by decide +kernel, by decide +kernel⟩
theorem ok__law_grown (B : Fr mg)  (F : FunD K "_law_grown" "_law_grown" (defArgs s__law_grown) (defBody s__law_grown) (defScope s__law_grown) [] [] fa fd) : FnOk P w K mg base CX0 1 fa fd ["_law_point_here", "_law_kind", "_law_by", "_law_number"] (spOf K false (C4 m__law_grown)) :=
  fn_ok4 (m := mb__law_grown) (post := fun _ => []) F sc__law_grown (by decide) rfl fun cdv A outer s H E hr v_l_point_here v_l_kind v_l_by v_l_number => (bs_unp (pg_tup rfl (pgs_cons (pg_name (i := 4) sc__law_grown.nd rfl (by first | exact Or.inl rfl | exact Or.inr rfl)) (pgs_cons (pg_name (i := 5) sc__law_grown.nd rfl (by first | exact Or.inl rfl | exact Or.inr rfl)) pgs_nil))) (tg_pair 4 5) (ep_var 0) fun y1 => (bs_ifR (tp_w (wp_or (Cq.t (cq_eqS (ep_var 1) ep_int) _) (wp_or1 (Cq.t (cq_lt (ep_mod (ep_var 2) ep_int) ep_int) _)))) (bs_ret (ep_var 0)) (bs_asg 6 sc__law_grown.nd (ep_idx (EpF.lp (ep_lst (al_cons ep_int (al_cons ep_int al_nil)))) (ep_sub (ep_mod (ep_var 2) ep_int) ep_int)) fun v_l_times => (bs_asg 7 sc__law_grown.nd (ep_sub (ep_mod (ep_fdiv (ep_var 2) ep_int) ep_int) ep_int) fun v_l_away => (bs_asg 8 sc__law_grown.nd (ep_intB (by rfl) B.b_int (Cq.e (cq_eqS (ep_mod (ep_fdiv (ep_var 3) (ep_pow ep_int ep_int)) ep_int) ep_int) _)) fun v_l_off => (bs_ret (ep_pair (ep_add (ep_add (ep_mul (ep_var 4) (ep_var 6)) (ep_var 7)) (ep_var 8)) (ep_sub (ep_mul (ep_var 5) (ep_var 6)) (ep_var 7)))))))))
noncomputable def mb__law_points (v_l_script : Script) (v_l_most : Int) : Option (Out (List (Int × Int)) Unit) := (Option.bind (bind2 (some v_l_script) (some (0 : Int)) m__law_cell_at) fun (v_l_first : Int) => (Option.bind (omod (ofdiv (some v_l_first) (some v_l_most)) (some (6 : Int))) fun (v_l_kind : Int) => (Option.bind (some ([] : List (Int × Int))) fun (v_l_points_here : (List (Int × Int))) => (Option.bind (orng (oadd (some (1 : Int)) (omod (some v_l_first) (some v_l_most)))) fun xs4 => thenO (loopL (fun (x2 : Int) (g1 : ((List (Int × Int)))) => (Option.bind (bind2 (bind2 (some v_l_script) (oadd (some (1 : Int)) (some x2)) m__law_cell_at) (some x2) m__law_mixed) fun (v_l_number : Int) => (Option.bind (bind2 (some v_l_kind) (some v_l_number) m__law_point) fun (v_l_point_here : (Int × Int)) => (Option.bind (bind4 (some v_l_point_here) (some v_l_kind) (ofdiv (ofdiv (some v_l_first) (some v_l_most)) (some (6 : Int))) (some v_l_number) m__law_grown) fun (v_l_point_here : (Int × Int)) => (thenO (oite (onin (some v_l_point_here) (some g1)) (Option.bind (oapp g1 (some v_l_point_here)) fun (v_l_points_here : List (Int × Int)) => (some (.go (v_l_points_here) : Out (List (Int × Int)) ((List (Int × Int)))))) (some (.go (g1) : Out (List (Int × Int)) ((List (Int × Int)))))) fun (g3 : ((List (Int × Int)))) => (some (.go (g3) : Out (List (Int × Int)) ((List (Int × Int)))))))))) xs4 (v_l_points_here)) fun (g1 : ((List (Int × Int)))) => (some (.ret g1))))))
noncomputable def m__law_points (v_l_script : Script) (v_l_most : Int) : Option (List (Int × Int)) := retv (mb__law_points v_l_script v_l_most)
theorem sc__law_points : FnScope ["_law_script", "_law_most", "_law_first", "_law_kind", "_law_points_here", "_law_k", "_law_number", "_law_point_here"] ["_law_script", "_law_most"] (defScope s__law_points) := ⟨rfl, rfl, rfl, by decide +kernel, rfl, by decide +kernel, by decide +kernel⟩
theorem ok__law_points (B : Fr mg) (h__law_cell_at : Has P w K mg base 1 "_law_cell_at" ["_law_script", "_law_k"] (spOf K false (C2 m__law_cell_at))) (h__law_mixed : Has P w K mg base 1 "_law_mixed" ["_law_cell", "_law_k"] (spOf K false (C2 m__law_mixed))) (h__law_point : Has P w K mg base 1 "_law_point" ["_law_kind", "_law_number"] (spOf K false (C2 m__law_point))) (h__law_grown : Has P w K mg base 1 "_law_grown" ["_law_point_here", "_law_kind", "_law_by", "_law_number"] (spOf K false (C4 m__law_grown))) (F : FunD K "_law_points" "_law_points" (defArgs s__law_points) (defBody s__law_points) (defScope s__law_points) [] [] fa fd) : FnOk P w K mg base CX0 2 fa fd ["_law_script", "_law_most"] (spOf K true (C2 m__law_points)) :=
  fn_ok2 (m := mb__law_points) (post := fun _ => []) F sc__law_points (by decide) rfl fun cdv A outer s H E hr v_l_script v_l_most => (bs_asg 2 sc__law_points.nd (ep_has h__law_cell_at hr (by decide) (ag_cons (ep_var 0) (ag_cons ep_int ag_nil)) c2) fun v_l_first => (bs_asg 3 sc__law_points.nd (ep_mod (ep_fdiv (ep_var 2) (ep_var 1)) ep_int) fun v_l_kind => (bs_asgM 4 sc__law_points.nd (ep_lst al_nil) fun v_l_points_here => (bs_forR (fun (g1 : ((List (Int × Int)))) => [.imm (α := Script) v_l_script, .imm (α := Int) v_l_most, .imm (α := Int) v_l_first, .imm (α := Int) v_l_kind, .mut (ML.mk (α := (Int × Int)) g1), .any, .any, .any]) (v_l_points_here) (by rfl) B.b_range (pg_name (i := 5) sc__law_points.nd rfl (by first | exact Or.inl rfl | exact Or.inr rfl)) (tg_name 5) (ep_add ep_int (ep_mod (ep_var 2) (ep_var 1))) (Wk.same (Wk.same (Wk.same (Wk.same (Wk.same (Wk.same (Wk.same (Wk.same Wk.nil)))))))) (fun x2 g1 => (bs_asg 6 sc__law_points.nd (ep_has h__law_mixed hr (by decide) (ag_cons (ep_has h__law_cell_at hr (by decide) (ag_cons (ep_var 0) (ag_cons (ep_add ep_int (ep_var 5)) ag_nil)) c2) (ag_cons (ep_var 5) ag_nil)) c2) fun v_l_number => (bs_asg 7 sc__law_points.nd (ep_has h__law_point hr (by decide) (ag_cons (ep_var 3) (ag_cons (ep_var 6) ag_nil)) c2) fun v_l_point_here => (bs_asg 7 sc__law_points.nd (ep_has h__law_grown hr (by decide) (ag_cons (ep_var 7) (ag_cons (ep_var 3) (ag_cons (ep_fdiv (ep_fdiv (ep_var 2) (ep_var 1)) ep_int) (ag_cons (ep_var 6) ag_nil)))) c4) fun v_l_point_here => (bs_ifG (post1 := (fun (g3 : ((List (Int × Int)))) => [.imm (α := Script) v_l_script, .imm (α := Int) v_l_most, .imm (α := Int) v_l_first, .imm (α := Int) v_l_kind, .mut (ML.mk (α := (Int × Int)) g3), .imm (α := Int) x2, .imm (α := Int) v_l_number, .imm (α := (Int × Int)) v_l_point_here])) (Cq.t (cq_nin hr.units65 (ep_var 7) (lp_var 4)) _) (bs_app (xs := ML.mk (α := (Int × Int)) g1) 4 (ep_var 7) fun v_l_points_here => (bs_go (Wk.same (Wk.same (Wk.same (Wk.same (Wk.same (Wk.same (Wk.same (Wk.same Wk.nil)))))))))) (bs_go (Wk.same (Wk.same (Wk.same (Wk.same (Wk.same (Wk.same (Wk.same (Wk.same Wk.nil))))))))) fun g3 => (bs_go (Wk.same (Wk.same (Wk.same (Wk.same (Wk.same (Wk.any (Wk.any (Wk.any Wk.nil)))))))))))))) (fun g1 => (bs_retM 4)) .never rfl))))
noncomputable def mb__law_far (v_l_a : (Int × Int)) (v_l_b : (Int × Int)) : Option (Out Int Unit) := (Option.bind (osub (ofst (some v_l_a)) (ofst (some v_l_b))) fun (v_l_x : Int) => (Option.bind (osub (osnd (some v_l_a)) (osnd (some v_l_b))) fun (v_l_y : Int) => (oret (oadd (omul (some v_l_x) (some v_l_x)) (omul (some v_l_y) (some v_l_y))))))
noncomputable def m__law_far (v_l_a : (Int × Int)) (v_l_b : (Int × Int)) : Option Int := retv (mb__law_far v_l_a v_l_b)
theorem sc__law_far : FnScope ["_law_a", "_law_b", "_law_x", "_law_y"] ["_law_a", "_law_b"] (defScope s__law_far) := ⟨rfl, rfl, rfl, by decide +kernel, rfl, by decide +kernel, by decide +kernel⟩
theorem ok__law_far (B : Fr mg)  (F : FunD K "_law_far" "_law_far" (defArgs s__law_far) (defBody s__law_far) (defScope s__law_far) [] [] fa fd) : FnOk P w K mg base CX0 1 fa fd ["_law_a", "_law_b"] (spOf K false (C2 m__law_far)) :=
  fn_ok2 (m := mb__law_far) (post := fun _ => []) F sc__law_far (by decide) rfl fun cdv A outer s H E hr v_l_a v_l_b => (bs_asg 2 sc__law_far.nd (ep_sub (ep_fst (ep_var 0)) (ep_fst (ep_var 1))) fun v_l_x => (bs_asg 3 sc__law_far.nd (ep_sub (ep_snd (ep_var 0)) (ep_snd (ep_var 1))) fun v_l_y => (bs_ret (ep_add (ep_mul (ep_var 2) (ep_var 2)) (ep_mul (ep_var 3) (ep_var 3))))))
noncomputable def mb__law_whole (v_l_found : Int) : Option (Out Bool Unit) := (oret (oand (oisi (some v_l_found) true) (onot (oisi (some v_l_found) false))))
noncomputable def m__law_whole (v_l_found : Int) : Option Bool := retv (mb__law_whole v_l_found)
theorem sc__law_whole : FnScope ["_law_found"] ["_law_found"] (defScope s__law_whole) := ⟨rfl, rfl, rfl, by decide +kernel, rfl, by decide +kernel, by decide +kernel⟩
theorem ok__law_whole (B : Fr mg)  (F : FunD K "_law_whole" "_law_whole" (defArgs s__law_whole) (defBody s__law_whole) (defScope s__law_whole) [] [] fa fd) : FnOk P w K mg base CX0 1 fa fd ["_law_found"] (spOf K false (C1 m__law_whole)) :=
  fn_ok1 (m := mb__law_whole) (post := fun _ => []) F sc__law_whole (by decide) rfl fun cdv A outer s H E hr v_l_found => (bs_ret (ep_and (ep_isi (t := "int") true B.b_isinstance B.b_int (by decide +kernel) (by decide +kernel) (ep_var 0)) (ep_one (ep_not (ep_isi (t := "bool") false B.b_isinstance B.b_bool (by decide +kernel) (by decide +kernel) (ep_var 0))))))
noncomputable def mb__law_spot (v_l_script : Script) (v_l_at : Int) (v_l_points_here : (List (Int × Int))) : Option (Out (Int × Int) Unit) := (Option.bind (bind2 (bind2 (some v_l_script) (some v_l_at) m__law_cell_at) (some v_l_at) m__law_mixed) fun (v_l_number : Int) => (Option.bind (ofdiv (some v_l_number) (some (5 : Int))) fun (v_l_more : Int) => (Option.bind (oidx (some v_l_points_here) (omod (some v_l_more) (olen (some v_l_points_here)))) fun (v_l_one : (Int × Int)) => (oite (oeq (omod (some v_l_number) (some (5 : Int))) (some (0 : Int))) (noGo (oret (some v_l_one))) (oite (oeq (omod (some v_l_number) (some (5 : Int))) (some (1 : Int))) (noGo (Option.bind (osub (omod (ofdiv (some v_l_more) (some (2000001 : Int))) (some (2000001 : Int))) (some (1000000 : Int))) fun (v_l_y : Int) => (oret (omk2 (osub (omod (some v_l_more) (some (2000001 : Int))) (some (1000000 : Int))) (some v_l_y))))) (oite (oeq (omod (some v_l_number) (some (5 : Int))) (some (2 : Int))) (noGo (Option.bind (osub (oadd (ofdiv (ofst (some v_l_one)) (some (2 : Int))) (omod (ofdiv (some v_l_more) (some (80 : Int))) (some (9 : Int)))) (some (4 : Int))) fun (v_l_x : Int) => (oret (omk2 (some v_l_x) (osub (oadd (ofdiv (osnd (some v_l_one)) (some (2 : Int))) (omod (ofdiv (some v_l_more) (some (720 : Int))) (some (9 : Int)))) (some (4 : Int))))))) (Option.bind (oidx (some v_l_points_here) (omod (ofdiv (some v_l_more) (some (80 : Int))) (olen (some v_l_points_here)))) fun (v_l_other : (Int × Int)) => (oret (omk2 (ofdiv (oadd (ofst (some v_l_one)) (ofst (some v_l_other))) (some (2 : Int))) (ofdiv (oadd (osnd (some v_l_one)) (osnd (some v_l_other))) (some (2 : Int))))))))))))
noncomputable def m__law_spot (v_l_script : Script) (v_l_at : Int) (v_l_points_here : (List (Int × Int))) : Option (Int × Int) := retv (mb__law_spot v_l_script v_l_at v_l_points_here)
theorem sc__law_spot : FnScope ["_law_script", "_law_at", "_law_points_here", "_law_number", "_law_more", "_law_one", "_law_y", "_law_x", "_law_other"] ["_law_script", "_law_at", "_law_points_here"] (defScope s__law_spot) := ⟨rfl, rfl, rfl, by decide +kernel, rfl, by decide +kernel, by decide +kernel⟩
theorem ok__law_spot (B : Fr mg) (h__law_cell_at : Has P w K mg base 1 "_law_cell_at" ["_law_script", "_law_k"] (spOf K false (C2 m__law_cell_at))) (h__law_mixed : Has P w K mg base 1 "_law_mixed" ["_law_cell", "_law_k"] (spOf K false (C2 m__law_mixed))) (F : FunD K "_law_spot" "_law_spot" (defArgs s__law_spot) (defBody s__law_spot) (defScope s__law_spot) [] [] fa fd) : FnOk P w K mg base CX0 2 fa fd ["_law_script", "_law_at", "_law_points_here"] (spOf K false (C3 m__law_spot)) :=
  fn_ok3 (m := mb__law_spot) (post := fun _ => []) F sc__law_spot (by decide) rfl fun cdv A outer s H E hr v_l_script v_l_at v_l_points_here => (bs_asg 3 sc__law_spot.nd (ep_has h__law_mixed hr (by decide) (ag_cons (ep_has h__law_cell_at hr (by decide) (ag_cons (ep_var 0) (ag_cons (ep_var 1) ag_nil)) c2) (ag_cons (ep_var 1) ag_nil)) c2) fun v_l_number => (bs_asg 4 sc__law_spot.nd (ep_fdiv (ep_var 3) ep_int) fun v_l_more => (bs_asg 5 sc__law_spot.nd (ep_idx (Ep.lp (ep_var 2)) (ep_mod (ep_var 4) (ep_len (by rfl) B.b_len (Ep.lp (ep_var 2))))) fun v_l_one => (bs_ifR (Cq.t (cq_eqS (ep_mod (ep_var 3) ep_int) ep_int) _) (bs_ret (ep_var 5)) (bs_ifR (Cq.t (cq_eqS (ep_mod (ep_var 3) ep_int) ep_int) _) (bs_asg 6 sc__law_spot.nd (ep_sub (ep_mod (ep_fdiv (ep_var 4) ep_int) ep_int) ep_int) fun v_l_y => (bs_ret (ep_pair (ep_sub (ep_mod (ep_var 4) ep_int) ep_int) (ep_var 6)))) (bs_ifR (Cq.t (cq_eqS (ep_mod (ep_var 3) ep_int) ep_int) _) (bs_asg 7 sc__law_spot.nd (ep_sub (ep_add (ep_fdiv (ep_fst (ep_var 5)) ep_int) (ep_mod (ep_fdiv (ep_var 4) ep_int) ep_int)) ep_int) fun v_l_x => (bs_ret (ep_pair (ep_var 7) (ep_sub (ep_add (ep_fdiv (ep_snd (ep_var 5)) ep_int) (ep_mod (ep_fdiv (ep_var 4) ep_int) ep_int)) ep_int)))) (bs_asg 8 sc__law_spot.nd (ep_idx (Ep.lp (ep_var 2)) (ep_mod (ep_fdiv (ep_var 4) ep_int) (ep_len (by rfl) B.b_len (Ep.lp (ep_var 2))))) fun v_l_other => (bs_ret (ep_pair (ep_fdiv (ep_add (ep_fst (ep_var 5)) (ep_fst (ep_var 8))) ep_int) (ep_fdiv (ep_add (ep_snd (ep_var 5)) (ep_snd (ep_var 8))) ep_int))))))))))
noncomputable def mb__law_known (v_l_found : (List Int)) (v_l_many : Int) : Option (Out Bool Unit) := (oite (onot (oisi (some v_l_found) true)) (noGo (oret (some false))) (oret (oall (Option.bind (some v_l_found) fun xs2 => if capOk xs2.length then lcM oYes (fun (x1 : Int) => (oand (Option.bind (some x1) m__law_whole) (ochn (some (0 : Int)) (some x1) (some v_l_many)))) xs2 else none))))
noncomputable def m__law_known (v_l_found : (List Int)) (v_l_many : Int) : Option Bool := retv (mb__law_known v_l_found v_l_many)
theorem sc__law_known : FnScope ["_law_found", "_law_many", "_law_one"] ["_law_found", "_law_many"] (defScope s__law_known) := ⟨rfl, rfl, rfl, by decide +kernel, rfl, by decide +kernel, by decide +kernel⟩
theorem ok__law_known (B : Fr mg) (h__law_whole : Has P w K mg base 1 "_law_whole" ["_law_found"] (spOf K false (C1 m__law_whole))) (F : FunD K "_law_known" "_law_known" (defArgs s__law_known) (defBody s__law_known) (defScope s__law_known) [] [] fa fd) : FnOk P w K mg base CX0 2 fa fd ["_law_found", "_law_many"] (spOf K false (C2 m__law_known)) :=
  fn_ok2 (m := mb__law_known) (post := fun _ => []) F sc__law_known (by decide) rfl fun cdv A outer s H E hr v_l_found v_l_many => (bs_ifR (tp_not (tp_val (ep_isi (t := "list") true B.b_isinstance B.b_list (by decide +kernel) (by decide +kernel) (ep_var 0)))) (bs_ret ep_bl) (bs_ret (ep_all rfl (by rfl) B.b_all (EpF.lp (LcOk.ep rfl sc__law_known.nd (lc_C [("_law_one", 2)] (blkOk_by (N := ["_law_found", "_law_many", "_law_one"]) (sc := defScope s__law_known) (by decide +kernel)) (Ep.lp (ep_var 0)) (fun _ _ _ _ _ => (pg_name (i := 2) sc__law_known.nd rfl (by first | exact Or.inl rfl | exact Or.inr rfl))) (tg_name 2) (by intro j hj; simpa using hj) (fun _ _ _ _ _ => pts_nil) tts_nil (fun x1 _ _ _ _ _ => (ep_and (ep_has h__law_whole hr (by decide) (ag_cons (ep_var 2) ag_nil) c1) (ep_one (ep_chn ep_int (ep_var 2) (ep_var 1))))) (by intro _; rfl)))))))
noncomputable def mb__law_turned (v_l_net : (List Tri)) (v_l_at : Int) : Option (Out (List Tri) Unit) := (Option.bind (omod (some v_l_at) (oadd (olen (some v_l_net)) (some (1 : Int)))) fun (v_l_at : Int) => (Option.bind (Option.bind (ocut (some v_l_net) (osome (some v_l_at)) (some none)) fun xs2 => if capOk xs2.length then lcM oYes (fun (x1 : Tri) => (omk3 (otri (some x1) (some (1 : Int))) (otri (some x1) (some (2 : Int))) (otri (some x1) (some (0 : Int))))) xs2 else none) fun (v_l_some : (List Tri)) => (oret (ocat (some v_l_some) (ocut (some v_l_net) (some none) (osome (some v_l_at)))))))
noncomputable def m__law_turned (v_l_net : (List Tri)) (v_l_at : Int) : Option (List Tri) := retv (mb__law_turned v_l_net v_l_at)
theorem sc__law_turned : FnScope ["_law_net", "_law_at", "_law_some", "_law_triple"] ["_law_net", "_law_at"] (defScope s__law_turned) := ⟨rfl, rfl, rfl, by decide +kernel, rfl, by decide +kernel, by decide +kernel⟩
theorem ok__law_turned (B : Fr mg)  (F : FunD K "_law_turned" "_law_turned" (defArgs s__law_turned) (defBody s__law_turned) (defScope s__law_turned) [] [] fa fd) : FnOk P w K mg base CX0 1 fa fd ["_law_net", "_law_at"] (spOf K true (C2 m__law_turned)) :=
  fn_ok2 (m := mb__law_turned) (post := fun _ => []) F sc__law_turned (by decide) rfl fun cdv A outer s H E hr v_l_net v_l_at => (bs_asg 1 sc__law_turned.nd (ep_mod (ep_var 1) (ep_add (ep_len (by rfl) B.b_len (Ep.lp (ep_var 0))) ep_int)) fun v_l_at => (bs_asgLc 2 rfl sc__law_turned.nd (lc_C [("_law_triple", 3)] (blkOk_by (N := ["_law_net", "_law_at", "_law_some", "_law_triple"]) (sc := defScope s__law_turned) (by decide +kernel)) (EpF.lp (ep_cut (Ep.lp (ep_var 0)) (pp_some (ep_var 1)) pp_none)) (fun _ _ _ _ _ => (pg_name (i := 3) sc__law_turned.nd rfl (by first | exact Or.inl rfl | exact Or.inr rfl))) (tg_name 3) (by intro j hj; simpa using hj) (fun _ _ _ _ _ => pts_nil) tts_nil (fun x1 _ _ _ _ _ => (ep_tri (ep_trix (ep_var 3) ep_int) (ep_trix (ep_var 3) ep_int) (ep_trix (ep_var 3) ep_int))) (by intro _; rfl)) fun v_l_some => (bs_retF (ep_cat (Ep.lp (ep_var 2)) (EpF.lp (ep_cut (Ep.lp (ep_var 0)) pp_none (pp_some (ep_var 1))))))))
noncomputable def mb_law (v_l_script : Script) : Option (Out Bool Unit) := (Option.bind (bind2 (some v_l_script) (some (7 : Int)) m__law_points) fun (v_l_points_here : (List (Int × Int))) => (Option.bind (bind2 (Option.bind (some v_l_points_here) m_near) (bind2 (some v_l_script) (some (12 : Int)) m__law_cell_at) m__law_turned) fun (v_l_net : (List Tri)) => (Option.bind (otwo (some v_l_points_here) (some v_l_net)) fun (v_l_handed : (Two (List (Int × Int)) (List Tri))) => (Option.bind (bind3 (some v_l_script) (some (11 : Int)) (some v_l_points_here) m__law_spot) fun (v_l_spot_here : (Int × Int)) => (Option.bind (ominL (Option.bind (some v_l_points_here) fun xs2 => if capOk xs2.length then lcM oYes (fun (x1 : (Int × Int)) => (bind2 (some x1) (some v_l_spot_here) m__law_far)) xs2 else none)) fun (v_l_least : Int) => (Option.bind (orng (olen (some v_l_points_here))) fun xs10 => thenO (loopL (fun (x4 : Int) (g3 : Unit) => (Option.bind (bind3 (otwoA (some v_l_handed)) (otwoB (some v_l_handed)) (some x4) m_around) fun (v_l_others : (List Int)) => (oite (onot (bind2 (some v_l_others) (olen (some v_l_points_here)) m__law_known)) (noGo (oret (some false))) (Option.bind (bind2 (oidx (some v_l_points_here) (some x4)) (some v_l_spot_here) m__law_far) fun (v_l_here : Int) => (Option.bind (Option.bind (some v_l_others) fun xs6 => if capOk xs6.length then lcM (fun (x5 : Int) => (olt (bind2 (oidx (some v_l_points_here) (some x5)) (some v_l_spot_here) m__law_far) (some v_l_here))) (fun (x5 : Int) => (some x5)) xs6 else none) fun (v_l_nearer : (List Int)) => (oite (one_ (oeq (some v_l_here) (some v_l_least)) (oeq (some v_l_nearer) (some ([] : List Int)))) (noGo (oret (some false))) (Option.bind (bind4 (otwoA (some v_l_handed)) (otwoB (some v_l_handed)) (some x4) (some v_l_spot_here) m_walked) fun (v_l_row : (List Int)) => (oite (oor (onot (bind2 (some v_l_row) (olen (some v_l_points_here)) m__law_known)) (one_ (ocut (some v_l_row) (some none) (osome (some (1 : Int)))) (ocons (some x4) (some ([] : List Int))))) (noGo (oret (some false))) (oite (one_ (bind2 (oidx (some v_l_points_here) (oidx (some v_l_row) (oneg (some (1 : Int))))) (some v_l_spot_here) m__law_far) (some v_l_least)) (noGo (oret (some false))) (Option.bind (ozip (some v_l_row) (ocut (some v_l_row) (osome (some (1 : Int))) (some none))) fun xs9 => thenO (loopL (fun (x8 : (Int × Int)) (g7 : Unit) => (oite (onin (some x8.2) (bind3 (some v_l_points_here) (some v_l_net) (some x8.1) m_around)) (noGo (oret (some false))) (oite (oge (bind2 (oidx (some v_l_points_here) (some x8.2)) (some v_l_spot_here) m__law_far) (bind2 (oidx (some v_l_points_here) (some x8.1)) (some v_l_spot_here) m__law_far)) (noGo (oret (some false))) (some (.go () : Out Bool Unit))))) xs9 ()) fun (g7 : Unit) => (some (.go () : Out Bool Unit)))))))))))) xs10 ()) fun (g3 : Unit) => (oret (oeq (some v_l_handed) (otwo (some v_l_points_here) (some v_l_net))))))))))
noncomputable def m_law (v_l_script : Script) : Option Bool := retv (mb_law v_l_script)
theorem sc_law : FnScope ["_law_script", "_law_points_here", "_law_net", "_law_handed", "_law_spot_here", "_law_least", "_law_start", "_law_others", "_law_here", "_law_nearer", "_law_row", "_law_one", "_law_other", "_law_point_here"] ["_law_script"] (defScope s_law) := ⟨rfl, rfl, rfl, by decide +kernel, rfl, by decide +kernel, by decide +kernel⟩
theorem ok_law (B : Fr mg) (h__law_points : Has P w K mg base 2 "_law_points" ["_law_script", "_law_most"] (spOf K true (C2 m__law_points))) (h_near : Has P w K mg base 7 "near" ["points"] (spOf K false (C1 m_near))) (h__law_cell_at : Has P w K mg base 1 "_law_cell_at" ["_law_script", "_law_k"] (spOf K false (C2 m__law_cell_at))) (h__law_turned : Has P w K mg base 1 "_law_turned" ["_law_net", "_law_at"] (spOf K true (C2 m__law_turned))) (h__law_spot : Has P w K mg base 2 "_law_spot" ["_law_script", "_law_at", "_law_points_here"] (spOf K false (C3 m__law_spot))) (h__law_far : Has P w K mg base 1 "_law_far" ["_law_a", "_law_b"] (spOf K false (C2 m__law_far))) (h_around : Has P w K mg base 7 "around" ["points", "net", "number"] (spOf K true (C3 m_around))) (h__law_known : Has P w K mg base 2 "_law_known" ["_law_found", "_law_many"] (spOf K false (C2 m__law_known))) (h_walked : Has P w K mg base 8 "walked" ["points", "net", "start", "spot"] (spOf K true (C4 m_walked))) (F : FunD K "law" "law" (defArgs s_law) (defBody s_law) (defScope s_law) [] [] fa fd) : FnOk P w K mg base CX0 9 fa fd ["_law_script"] (spOf K false (C1 m_law)) :=
  fn_ok1 (m := mb_law) (post := fun _ => []) F sc_law (by decide) rfl fun cdv A outer s H E hr v_l_script => (bs_asg 1 sc_law.nd (EpF.ep (ep_hasF h__law_points hr (by decide) (ag_cons (ep_var 0) (ag_cons ep_int ag_nil)) c2)) fun v_l_points_here => (bs_asg 2 sc_law.nd (EpF.ep (ep_hasF h__law_turned hr (by decide) (ag_cons (ep_has h_near hr (by decide) (ag_cons (EpF.ep (ep_list (by rfl) B.b_list (Ep.lp (ep_var 1)))) ag_nil) c1) (ag_cons (ep_has h__law_cell_at hr (by decide) (ag_cons (ep_var 0) (ag_cons ep_int ag_nil)) c2) ag_nil)) c2)) fun v_l_net => (bs_asg 3 sc_law.nd (ep_two (EpF.ep (ep_list (by rfl) B.b_list (Ep.lp (ep_var 1)))) (EpF.ep (ep_list (by rfl) B.b_list (Ep.lp (ep_var 2))))) fun v_l_handed => (bs_asg 4 sc_law.nd (ep_has h__law_spot hr (by decide) (ag_cons (ep_var 0) (ag_cons ep_int (ag_cons (ep_var 1) ag_nil))) c3) fun v_l_spot_here => (bs_asg 5 sc_law.nd (ep_minL rfl hr.units (by rfl) B.b_min (EpF.lp (LcOk.ep rfl sc_law.nd (lc_C [("_law_point_here", 13)] (blkOk_by (N := ["_law_script", "_law_points_here", "_law_net", "_law_handed", "_law_spot_here", "_law_least", "_law_start", "_law_others", "_law_here", "_law_nearer", "_law_row", "_law_one", "_law_other", "_law_point_here"]) (sc := defScope s_law) (by decide +kernel)) (Ep.lp (ep_var 1)) (fun _ _ _ _ _ => (pg_name (i := 13) sc_law.nd rfl (by first | exact Or.inl rfl | exact Or.inr rfl))) (tg_name 13) (by intro j hj; simpa using hj) (fun _ _ _ _ _ => pts_nil) tts_nil (fun x1 _ _ _ _ _ => (ep_has h__law_far hr (by decide) (ag_cons (ep_var 13) (ag_cons (ep_var 4) ag_nil)) c2)) (by intro _; rfl))))) fun v_l_least => (bs_forR (fun (g3 : Unit) => [.imm (α := Script) v_l_script, .imm (α := (List (Int × Int))) v_l_points_here, .imm (α := (List Tri)) v_l_net, .imm (α := (Two (List (Int × Int)) (List Tri))) v_l_handed, .imm (α := (Int × Int)) v_l_spot_here, .imm (α := Int) v_l_least, .any, .any, .any, .any, .any, .any, .any, .any]) () (by rfl) B.b_range (pg_name (i := 6) sc_law.nd rfl (by first | exact Or.inl rfl | exact Or.inr rfl)) (tg_name 6) (ep_len (by rfl) B.b_len (Ep.lp (ep_var 1))) (Wk.same (Wk.same (Wk.same (Wk.same (Wk.same (Wk.same (Wk.same (Wk.same (Wk.same (Wk.same (Wk.same (Wk.same (Wk.same (Wk.same Wk.nil)))))))))))))) (fun x4 g3 => (bs_asg 7 sc_law.nd (EpF.ep (ep_hasF h_around hr (by decide) (ag_cons (ep_twoA (ep_var 3)) (ag_cons (ep_twoB (ep_var 3)) (ag_cons (ep_var 6) ag_nil))) c3)) fun v_l_others => (bs_ifR (tp_not (tp_val (ep_has h__law_known hr (by decide) (ag_cons (ep_var 7) (ag_cons (ep_len (by rfl) B.b_len (Ep.lp (ep_var 1))) ag_nil)) c2))) (bs_ret ep_bl) (bs_asg 8 sc_law.nd (ep_has h__law_far hr (by decide) (ag_cons (ep_idx (Ep.lp (ep_var 1)) (ep_var 6)) (ag_cons (ep_var 4) ag_nil)) c2) fun v_l_here => (bs_asgLc 9 rfl sc_law.nd (lc_C [("_law_one", 11)] (blkOk_by (N := ["_law_script", "_law_points_here", "_law_net", "_law_handed", "_law_spot_here", "_law_least", "_law_start", "_law_others", "_law_here", "_law_nearer", "_law_row", "_law_one", "_law_other", "_law_point_here"]) (sc := defScope s_law) (by decide +kernel)) (Ep.lp (ep_var 7)) (fun _ _ _ _ _ => (pg_name (i := 11) sc_law.nd rfl (by first | exact Or.inl rfl | exact Or.inr rfl))) (tg_name 11) (by intro j hj; simpa using hj) pts_w (tts_one fun x5 _ _ _ _ _ => (Cq.t (cq_lt (ep_has h__law_far hr (by decide) (ag_cons (ep_idx (Ep.lp (ep_var 1)) (ep_var 11)) (ag_cons (ep_var 4) ag_nil)) c2) (ep_var 8)) _)) (fun x5 _ _ _ _ _ => (ep_var 11)) (by intro _; rfl)) fun v_l_nearer => (bs_ifR (Cq.t (cq_neS (Cq.e (cq_eqS (ep_var 8) (ep_var 5)) _) (Cq.e (cq_eqD hr.units (ep_var 9) (EpF.ep (ep_lst al_nil))) _)) _) (bs_ret ep_bl) (bs_asg 10 sc_law.nd (EpF.ep (ep_hasF h_walked hr (by decide) (ag_cons (ep_twoA (ep_var 3)) (ag_cons (ep_twoB (ep_var 3)) (ag_cons (ep_var 6) (ag_cons (ep_var 4) ag_nil)))) c4)) fun v_l_row => (bs_ifR (tp_w (wp_or (tp_not (tp_val (ep_has h__law_known hr (by decide) (ag_cons (ep_var 10) (ag_cons (ep_len (by rfl) B.b_len (Ep.lp (ep_var 1))) ag_nil)) c2))) (wp_or1 (Cq.t (cq_neD hr.units (EpF.ep (ep_cut (Ep.lp (ep_var 10)) pp_none (pp_some ep_int))) (EpF.ep (ep_lst (al_cons (ep_var 6) al_nil)))) _)))) (bs_ret ep_bl) (bs_ifR (Cq.t (cq_neS (ep_has h__law_far hr (by decide) (ag_cons (ep_idx (Ep.lp (ep_var 1)) (ep_idx (Ep.lp (ep_var 10)) (ep_neg ep_int))) (ag_cons (ep_var 4) ag_nil)) c2) (ep_var 5)) _) (bs_ret ep_bl) (bs_forI (fun (g7 : Unit) => [.imm (α := Script) v_l_script, .imm (α := (List (Int × Int))) v_l_points_here, .imm (α := (List Tri)) v_l_net, .imm (α := (Two (List (Int × Int)) (List Tri))) v_l_handed, .imm (α := (Int × Int)) v_l_spot_here, .imm (α := Int) v_l_least, .imm (α := Int) x4, .imm (α := (List Int)) v_l_others, .imm (α := Int) v_l_here, .imm (α := (List Int)) v_l_nearer, .imm (α := (List Int)) v_l_row, .any, .any, .any]) () (pg_tup rfl (pgs_cons (pg_name (i := 11) sc_law.nd rfl (by first | exact Or.inl rfl | exact Or.inr rfl)) (pgs_cons (pg_name (i := 12) sc_law.nd rfl (by first | exact Or.inl rfl | exact Or.inr rfl)) pgs_nil))) (tg_pair 11 12) (it_zip (by rfl) B.b_zip (ep_var 10) (EpF.ep (ep_cut (Ep.lp (ep_var 10)) (pp_some ep_int) pp_none))) (Wk.same (Wk.same (Wk.same (Wk.same (Wk.same (Wk.same (Wk.same (Wk.same (Wk.same (Wk.same (Wk.same (Wk.same (Wk.same (Wk.same Wk.nil)))))))))))))) (fun x8 g7 => (bs_ifR (Cq.t (cq_nin hr.units65 (ep_var 12) (EpF.lp (ep_hasF h_around hr (by decide) (ag_cons (ep_var 1) (ag_cons (ep_var 2) (ag_cons (ep_var 11) ag_nil))) c3))) _) (bs_ret ep_bl) (bs_ifR (Cq.t (cq_ge (ep_has h__law_far hr (by decide) (ag_cons (ep_idx (Ep.lp (ep_var 1)) (ep_var 12)) (ag_cons (ep_var 4) ag_nil)) c2) (ep_has h__law_far hr (by decide) (ag_cons (ep_idx (Ep.lp (ep_var 1)) (ep_var 11)) (ag_cons (ep_var 4) ag_nil)) c2)) _) (bs_ret ep_bl) (bs_go (Wk.same (Wk.same (Wk.same (Wk.same (Wk.same (Wk.same (Wk.same (Wk.same (Wk.same (Wk.same (Wk.same (Wk.any (Wk.any (Wk.same Wk.nil)))))))))))))))))) (fun g7 => (bs_go (Wk.same (Wk.same (Wk.same (Wk.same (Wk.same (Wk.same (Wk.any (Wk.any (Wk.any (Wk.any (Wk.any (Wk.same (Wk.same (Wk.same Wk.nil)))))))))))))))) .never rfl)))))))))) (fun g3 => (bs_ret (Cq.e (cq_eqD hr.units (ep_var 3) (ep_two (ep_var 1) (ep_var 2))) _))) .never rfl))))))
end G_k13
namespace G_k13
open PySem PySem.Spec PyProof.Rows L2 T
def d_twice_area : He.DefD := ⟨("twice_area", none), "twice_area", "twice_area", defArgs s_twice_area, defBody s_twice_area, defScope s_twice_area, [], []⟩
def d_sign : He.DefD := ⟨("sign", none), "sign", "sign", defArgs s_sign, defBody s_sign, defScope s_sign, [], []⟩
def d_turn : He.DefD := ⟨("turn", none), "turn", "turn", defArgs s_turn, defBody s_turn, defScope s_turn, [], []⟩
def d_far : He.DefD := ⟨("far", none), "far", "far", defArgs s_far, defBody s_far, defScope s_far, [], []⟩
def d_ring : He.DefD := ⟨("ring", none), "ring", "ring", defArgs s_ring, defBody s_ring, defScope s_ring, [], []⟩
def d_in_order : He.DefD := ⟨("in_order", none), "in_order", "in_order", defArgs s_in_order, defBody s_in_order, defScope s_in_order, [], []⟩
def d_first_off : He.DefD := ⟨("first_off", none), "first_off", "first_off", defArgs s_first_off, defBody s_first_off, defScope s_first_off, [], []⟩
def d_rolled : He.DefD := ⟨("rolled", none), "rolled", "rolled", defArgs s_rolled, defBody s_rolled, defScope s_rolled, [], []⟩
def d_swept : He.DefD := ⟨("swept", none), "swept", "swept", defArgs s_swept, defBody s_swept, defScope s_swept, [], []⟩
def d_joined : He.DefD := ⟨("joined", none), "joined", "joined", defArgs s_joined, defBody s_joined, defScope s_joined, [], []⟩
def d_hull : He.DefD := ⟨("hull", none), "hull", "hull", defArgs s_hull, defBody s_hull, defScope s_hull, [], []⟩
def d_spread : He.DefD := ⟨("spread", none), "spread", "spread", defArgs s_spread, defBody s_spread, defScope s_spread, [], []⟩
def d_need_number : He.DefD := ⟨("need_number", none), "need_number", "need_number", defArgs s_need_number, defBody s_need_number, defScope s_need_number, [], []⟩
def d_beside : He.DefD := ⟨("beside", none), "beside", "beside", defArgs s_beside, defBody s_beside, defScope s_beside, [], []⟩
def d_later_of : He.DefD := ⟨("later_of", none), "later_of", "later_of", defArgs s_later_of, defBody s_later_of, defScope s_later_of, [], []⟩
def d_in_turn : He.DefD := ⟨("in_turn", none), "in_turn", "in_turn", defArgs s_in_turn, defBody s_in_turn, defScope s_in_turn, [], []⟩
def d_around : He.DefD := ⟨("around", none), "around", "around", defArgs s_around, defBody s_around, defScope s_around, [], []⟩
def d_walked : He.DefD := ⟨("walked", none), "walked", "walked", defArgs s_walked, defBody s_walked, defScope s_walked, [], []⟩
def d_tops : He.DefD := ⟨("tops", none), "tops", "tops", defArgs s_tops, defBody s_tops, defScope s_tops, [], []⟩
def d_is_wrong : He.DefD := ⟨("is_wrong", none), "is_wrong", "is_wrong", defArgs s_is_wrong, defBody s_is_wrong, defScope s_is_wrong, [], []⟩
def d_wrong_of : He.DefD := ⟨("wrong_of", none), "wrong_of", "wrong_of", defArgs s_wrong_of, defBody s_wrong_of, defScope s_wrong_of, [], []⟩
def d_turned_over : He.DefD := ⟨("turned_over", none), "turned_over", "turned_over", defArgs s_turned_over, defBody s_turned_over, defScope s_turned_over, [], []⟩
def d_mended : He.DefD := ⟨("mended", none), "mended", "mended", defArgs s_mended, defBody s_mended, defScope s_mended, [], []⟩
def d_near : He.DefD := ⟨("near", none), "near", "near", defArgs s_near, defBody s_near, defScope s_near, [], []⟩
def d__law_cell_at : He.DefD := ⟨("_law_cell_at", none), "_law_cell_at", "_law_cell_at", defArgs s__law_cell_at, defBody s__law_cell_at, defScope s__law_cell_at, [], []⟩
def d__law_mixed : He.DefD := ⟨("_law_mixed", none), "_law_mixed", "_law_mixed", defArgs s__law_mixed, defBody s__law_mixed, defScope s__law_mixed, [], []⟩
def d__law_point : He.DefD := ⟨("_law_point", none), "_law_point", "_law_point", defArgs s__law_point, defBody s__law_point, defScope s__law_point, [], []⟩
def d__law_grown : He.DefD := ⟨("_law_grown", none), "_law_grown", "_law_grown", defArgs s__law_grown, defBody s__law_grown, defScope s__law_grown, [], []⟩
def d__law_points : He.DefD := ⟨("_law_points", none), "_law_points", "_law_points", defArgs s__law_points, defBody s__law_points, defScope s__law_points, [], []⟩
def d__law_far : He.DefD := ⟨("_law_far", none), "_law_far", "_law_far", defArgs s__law_far, defBody s__law_far, defScope s__law_far, [], []⟩
def d__law_whole : He.DefD := ⟨("_law_whole", none), "_law_whole", "_law_whole", defArgs s__law_whole, defBody s__law_whole, defScope s__law_whole, [], []⟩
def d__law_spot : He.DefD := ⟨("_law_spot", none), "_law_spot", "_law_spot", defArgs s__law_spot, defBody s__law_spot, defScope s__law_spot, [], []⟩
def d__law_known : He.DefD := ⟨("_law_known", none), "_law_known", "_law_known", defArgs s__law_known, defBody s__law_known, defScope s__law_known, [], []⟩
def d__law_turned : He.DefD := ⟨("_law_turned", none), "_law_turned", "_law_turned", defArgs s__law_turned, defBody s__law_turned, defScope s__law_turned, [], []⟩
def d_law : He.DefD := ⟨("law", none), "law", "law", defArgs s_law, defBody s_law, defScope s_law, [], []⟩
def fn_0 : List He.DefD := [d_twice_area, d_sign, d_turn, d_far, d_ring, d_in_order, d_first_off, d_rolled, d_swept, d_joined, d_hull, d_spread, d_need_number, d_beside, d_later_of, d_in_turn, d_around, d_walked, d_tops, d_is_wrong, d_wrong_of, d_turned_over, d_mended, d_near, d__law_cell_at, d__law_mixed, d__law_point, d__law_grown, d__law_points, d__law_far]
def fn_1 : List He.DefD := [d__law_whole, d__law_spot, d__law_known, d__law_turned, d_law]
def fn : List He.DefD := fn_0 ++ fn_1
def fa_0 : List He.Fa := [.glo "twice_area", .glo "sign", .glo "turn", .glo "far", .glo "ring", .glo "in_order", .glo "first_off", .glo "rolled", .glo "swept", .glo "joined", .glo "hull", .glo "spread", .glo "need_number", .glo "beside", .glo "later_of", .glo "in_turn", .glo "around", .glo "walked", .glo "tops", .glo "is_wrong", .glo "wrong_of", .glo "turned_over", .glo "mended", .glo "near", .glo "_law_cell_at", .glo "_law_mixed", .glo "_law_point", .glo "_law_grown", .glo "_law_points", .glo "_law_far"]
def fa_1 : List He.Fa := [.glo "_law_whole", .glo "_law_spot", .glo "_law_known", .glo "_law_turned", .glo "law", .glo "FieldError", .glo "InRow", .glo "NoPoint", .free "int", .free "sorted", .free "list", .free "range", .free "len", .free "min", .free "reversed", .free "bool", .free "isinstance", .free "max", .free "set", .free "all", .free "zip"]
def fa : List He.Fa := fa_0 ++ fa_1
def xb (K : PySem.W.Frag) : Bool := true
abbrev R : PySem.W.OpenRow := PySem.W.OpenLaw.row PySem.Challenge.rw_nearfields_k13_whole_nearest_found
def tf : List He.Defn := [("in_order", none)]
abbrev hk : PySem.W.Hook := He.hookX 4 fa fn [] tf xb
def ob (s : PySem.W.SharedT) : He.AlX := He.obsX 4 fa fn [] tf xb (HandSHeadRun.getT s)
theorem ob_eq (s : PySem.W.SharedT) : ob s = hk.obs s.abs := He.obsX_eq (HandSHeadRun.getT_eq s)
def lo_0 : List Str := ["twice_area", "sign", "turn", "far", "ring", "in_order", "first_off", "rolled", "swept", "joined", "hull", "spread", "need_number", "beside", "later_of", "in_turn", "around", "walked", "tops", "is_wrong", "wrong_of", "turned_over", "mended", "near", "_law_cell_at", "_law_mixed", "_law_point", "_law_grown", "_law_points", "_law_far"]
def lo_1 : List Str := ["_law_whole", "_law_spot", "_law_known", "_law_turned", "FieldError", "InRow", "NoPoint"]
abbrev lo : List Str := lo_0 ++ lo_1
theorem run (w : World) : HandSHeadRun.RunEq R (PySem.W.view R.prog [43]) hk ob 9000 lo w := by
  intro os
  kernel_rfl
end G_k13
namespace G_k13
open PySem PySem.Spec PyProof.Rows L2 T
local instance tbM : Tb := ⟨[]⟩
theorem tw {a b c : Pt} (ha : pb a) (hb : pb b) (hc : pb c) : m_twice_area a b c = some (area a b c) := by
  unfold m_twice_area mb_twice_area
  simp only [ofst_s, osnd_s, osub_s, omul_b (bd_sub' hb.1 ha.1) (bd_sub' hc.2 ha.2), omul_b (bd_sub' hb.2 ha.2) (bd_sub' hc.1 ha.1), oret_s, retv_ret]
  rfl
theorem sg (x : Int) : m_sign x = some (sgn x) := rfl
theorem tn {a b c : Pt} (ha : pb a) (hb : pb b) (hc : pb c) : m_turn a b c = some (sgn (area a b c)) := by
  unfold m_turn mb_turn
  simp only [bind3_s, tw ha hb hc, bind_s, sg, oret_s, retv_ret]
theorem fr {a b : Pt} (ha : pb a) (hb : pb b) : m_far a b = some (far a b) := by
  unfold m_far mb_far
  simp only [ofst_s, osnd_s, osub_s, opow2_b (bd_sub' ha.1 hb.1), opow2_b (bd_sub' ha.2 hb.2), oadd_s, oret_s, retv_ret]
  rfl
theorem rgf {a b c d : Pt} (ha : pb a) (hb : pb b) (hc : pb c) (hd : pb d) : (oadd (oadd (omul (bind2 (some a) (some d) m_far) (bind3 (some d) (some b) (some c) m_twice_area)) (omul (bind2 (some b) (some d) m_far) (bind3 (some d) (some c) (some a) m_twice_area))) (omul (bind2 (some c) (some d) m_far) (bind3 (some d) (some a) (some b) m_twice_area))) = some (rings a b c d) := by
  simp only [bind2_s, bind3_s, fr ha hd, fr hb hd, fr hc hd, tw hd hb hc, tw hd hc ha, tw hd ha hb, omul_b (bd_far ha hd) (bd_area hd hb hc), omul_b (bd_far hb hd) (bd_area hd hc ha), omul_b (bd_far hc hd) (bd_area hd ha hb), oadd_s]
  rfl
theorem rg {a b c d : Pt} (ha : pb a) (hb : pb b) (hc : pb c) (hd : pb d) (h : area a b c ≠ 0) : m_ring a b c d = some (sgn (rings a b c d) * sgn (area a b c)) := by
  have e0 : decide (sgn (area a b c) = 0) = false := decide_eq_false fun e => h (sgn_eq0.mp e)
  have b1 := sgn_bd (rings a b c d)
  unfold m_ring mb_ring
  rw [rgf ha hb hc hd]
  simp only [bind3_s, tn ha hb hc, bind_s, oeq_s, e0, oite_s, if_false, Bool.false_eq_true, sg]
  rw [omul_L _ (by omega) (by omega), oret_s, retv_ret]
theorem mxd (c k : Int) : ∃ v, m__law_mixed c k = some v ∧ 0 ≤ v := by
  refine ⟨((c + 61 * k + 7) * 1000009000027000027) % 1000000000000000000000007, ?_, Int.emod_nonneg _ (by decide)⟩
  unfold m__law_mixed mb__law_mixed
  rw [omul_L k (by decide) (by decide), show opow (some (1000003 : Int)) (some (3 : Int)) = some 1000009000027000027 from rfl, show opow (some (10 : Int)) (some (24 : Int)) = some 1000000000000000000000000 from rfl]
  simp only [oadd_s]
  rw [omul_R _ (by decide) (by decide), omod_s _ (by decide), oret_s, retv_ret]
  rfl
theorem cel {s : Script} {k : Int} (h : 0 ≤ k) : ∃ v, m__law_cell_at s k = some v := by
  unfold m__law_cell_at mb__law_cell_at
  rw [oslen_s, olt_s, oite_s]
  by_cases e : k < s.ns.length
  · rw [if_pos (decide_eq_true e)]
    have e2 : k.toNat < s.ns.length := by omega
    refine ⟨s.ns[k.toNat], ?_⟩
    show retv (noGo (oret (L2.atI s.ns k))) = _
    rw [atI_pos h, List.getElem?_eq_getElem e2, oret_s, noGo_ret, retv_ret]
  · rw [if_neg (by rw [decide_eq_true_eq]; exact e)]
    exact ⟨0, rfl⟩
theorem pnt {k n : Int} (hn : 0 ≤ n) : ∃ p, m__law_point k n = some p ∧ (k ≠ 2 → box 17 p) ∧ box 1000000 p := by
  unfold m__law_point mb__law_point
  have d (b : Int) (h0 : 0 < b) (h : b < 18446744073709551616) : ofdiv (some n) (some b) = some (n / b) := ofdiv_q n h0 h
  simp only [oeq_s, oite_s, decide_eq_true_eq]
  by_cases k0 : k = 0
  · refine ⟨(n % 3, n / 3 % 3), ?_, fun _ => ⟨by dsimp; omega, by dsimp; omega, by dsimp; omega, by dsimp; omega⟩, ⟨by dsimp; omega, by dsimp; omega, by dsimp; omega, by dsimp; omega⟩⟩
    rw [if_pos k0, omod_s _ (by decide), d 3 (by decide) (by decide), omod_s _ (by decide)]
    rfl
  rw [if_neg k0]
  by_cases k1 : k = 1
  · refine ⟨(n % 5 - 1, n / 5 % 5), ?_, fun _ => ⟨by dsimp; omega, by dsimp; omega, by dsimp; omega, by dsimp; omega⟩, ⟨by dsimp; omega, by dsimp; omega, by dsimp; omega, by dsimp; omega⟩⟩
    rw [if_pos k1, omod_s _ (by decide), d 5 (by decide) (by decide), omod_s _ (by decide)]
    rfl
  rw [if_neg k1]
  by_cases k2 : k = 2
  · refine ⟨(n % 2000001 - 1000000, n / 2000001 % 2000001 - 1000000), ?_, fun c => absurd k2 c, ⟨by dsimp; omega, by dsimp; omega, by dsimp; omega, by dsimp; omega⟩⟩
    rw [if_pos k2, omod_s _ (by decide), d 2000001 (by decide) (by decide), omod_s _ (by decide)]
    rfl
  rw [if_neg k2]
  by_cases k3 : k = 3
  · rw [if_pos k3, omod_s _ (by decide), d 9 (by decide) (by decide), omod_s _ (by decide), oeq_s, ob2i_s, bind_s, osub_s, omul_L _ (by decide) (by decide), oadd_s]
    by_cases e : n / 9 % 5 = 1
    · exact ⟨(n % 9 - 4, 2 * (n % 9) + 1), by rw [if_pos (decide_eq_true e)]; rfl, fun _ => ⟨by dsimp; omega, by dsimp; omega, by dsimp; omega, by dsimp; omega⟩, ⟨by dsimp; omega, by dsimp; omega, by dsimp; omega, by dsimp; omega⟩⟩
    · exact ⟨(n % 9 - 4, 2 * (n % 9) + 0), by rw [if_neg (by rw [decide_eq_true_eq]; exact e)]; rfl, fun _ => ⟨by dsimp; omega, by dsimp; omega, by dsimp; omega, by dsimp; omega⟩, ⟨by dsimp; omega, by dsimp; omega, by dsimp; omega, by dsimp; omega⟩⟩
  rw [if_neg k3, omod_s (b := 12) _ (by decide), d 12 (by decide) (by decide), omod_s (b := 6) _ (by decide), omod_s (b := 9) _ (by decide), ogt_s, oand_ss]
  by_cases k4 : (decide (k = 4) && decide (0 < n / 12 % 6)) = true
  · rw [oite_s, if_pos k4]
    have m : (n % 12).toNat < ([(5, 0), (4, 3), (3, 4), (0, 5), (-3, 4), (-4, 3), (-5, 0), (-4, -3), (-3, -4), (0, -5), (3, -4), (4, -3)] : List Pt).length := by show (n % 12).toNat < 12; omega
    have A : ∀ p ∈ ([(5, 0), (4, 3), (3, 4), (0, 5), (-3, 4), (-4, 3), (-5, 0), (-4, -3), (-3, -4), (0, -5), (3, -4), (4, -3)] : List Pt), box 17 p := by decide
    refine ⟨_, ?_, fun _ => A _ (List.getElem_mem m), box_mono (A _ (List.getElem_mem m)) (by decide)⟩
    show retv (noGo (oret (L2.atI [(5, 0), (4, 3), (3, 4), (0, 5), (-3, 4), (-4, 3), (-5, 0), (-4, -3), (-3, -4), (0, -5), (3, -4), (4, -3)] (n % 12)))) = _
    rw [atI_pos (by omega), List.getElem?_eq_getElem m]
    rfl
  · rw [oite_s, if_neg k4]
    exact ⟨(n % 12 - 6, n / 12 % 9 - 4), rfl, fun _ => ⟨by dsimp; omega, by dsimp; omega, by dsimp; omega, by dsimp; omega⟩, ⟨by dsimp; omega, by dsimp; omega, by dsimp; omega, by dsimp; omega⟩⟩
theorem grw {p : Pt} {k b n : Int} (h1 : k ≠ 2 → box 17 p) (h2 : box 1000000 p) : ∃ q, m__law_grown p k b n = some q ∧ box 1000000 q := by
  unfold m__law_grown mb__law_grown
  rw [bind_s, oeq_s, omod_s _ (by decide), olt_s, oor_ss, oite_s]
  by_cases c : (decide (k = 2) || decide (b % 4 < 2)) = true
  · rw [if_pos c]
    exact ⟨p, rfl, h2⟩
  · rw [if_neg c]
    have c1 : k ≠ 2 := fun e => c (by rw [decide_eq_true e]; rfl)
    have c2 : ¬ b % 4 < 2 := fun e => c (by rw [decide_eq_true e, Bool.or_true])
    obtain ⟨x, y⟩ := p
    obtain ⟨g1, g2, g3, g4⟩ := h1 c1
    dsimp at g1 g2 g3 g4
    have c3 : b % 4 - 2 = 0 ∨ b % 4 - 2 = 1 := by omega
    have u : ∀ t : Int, t = 1000 ∨ t = 50000 → ∃ q, retv (Option.bind (some t) fun v_l_times => (Option.bind (osub (omod (ofdiv (some b) (some (4 : Int))) (some (90001 : Int))) (some (45000 : Int))) fun (v_l_away : Int) => (Option.bind (ob2i (oeq (omod (ofdiv (some n) (opow (some (10 : Int)) (some (9 : Int)))) (some (9 : Int))) (some (1 : Int)))) fun (v_l_off : Int) => (oret (omk2 (oadd (oadd (omul (some x) (some v_l_times)) (some v_l_away)) (some v_l_off)) (osub (omul (some y) (some v_l_times)) (some v_l_away))) : Option (Out Pt Unit))))) = some q ∧ box 1000000 q := fun t ht => by
      rw [show opow (some (10 : Int)) (some (9 : Int)) = some 1000000000 from rfl, ofdiv_q b (by decide) (by decide), ofdiv_q n (by decide) (by decide), omod_s _ (by decide), omod_s _ (by decide), oeq_s, ob2i_s, osub_s, bind_s, bind_s, bind_s, omul_R _ (by omega) (by omega), omul_R _ (by omega) (by omega), oadd_s, oadd_s, osub_s, omk2_s, oret_s, retv_ret]
      refine ⟨_, rfl, ?_⟩
      have e : (0 : Int) ≤ (if decide (n / 1000000000 % 9 = 1) = true then 1 else 0) ∧ (if decide (n / 1000000000 % 9 = 1) = true then (1 : Int) else 0) ≤ 1 := by
        by_cases e : n / 1000000000 % 9 = 1
        · rw [if_pos (decide_eq_true e)]; decide
        · rw [if_neg (by rw [decide_eq_true_eq]; exact e)]; decide
      rcases ht with rfl | rfl
      · exact ⟨by dsimp; omega, by dsimp; omega, by dsimp; omega, by dsimp; omega⟩
      · exact ⟨by dsimp; omega, by dsimp; omega, by dsimp; omega, by dsimp; omega⟩
    rw [osub_s]
    rcases c3 with c3 | c3
    · rw [c3]
      exact u 1000 (.inl rfl)
    · rw [c3]
      exact u 50000 (.inr rfl)
theorem lpts (s : Script) {most : Int} (h0 : 0 < most) (h1 : most ≤ 40) : ∃ l, m__law_points s most = some l ∧ l ≠ [] ∧ l.Nodup ∧ (l.length : Int) ≤ most ∧ ∀ p ∈ l, box 1000000 p := by
  obtain ⟨v, hv⟩ := cel (s := s) (k := 0) (by decide)
  have m0 := Int.emod_nonneg v (show most ≠ 0 by omega)
  have m1 := Int.emod_lt_of_pos v h0
  unfold m__law_points mb__law_points
  simp only [bind2_s, hv, bind_s, ofdiv_q v h0 (by omega), omod_s _ (show (0 : Int) < 6 by decide), omod_s v h0, oadd_s]
  rw [orng_s (by omega) (by omega), bind_s]
  refine loop_invE (Inv := fun i (g : List Pt) => g.Nodup ∧ g.length ≤ i ∧ (0 < i → g ≠ []) ∧ ∀ p ∈ g, box 1000000 p) (Post := fun o => ∃ l, retv o = some l ∧ l ≠ [] ∧ l.Nodup ∧ (l.length : Int) ≤ most ∧ ∀ p ∈ l, box 1000000 p) ⟨by simp, Nat.zero_le _, fun h => absurd h (Nat.lt_irrefl _), fun p hp => by cases hp⟩ (fun j x g hx ⟨i1, i2, i3, i4⟩ => ?_) fun g ⟨i1, i2, i3, i4⟩ => ?_
  · have hxm := mem_rngL.mp (List.mem_of_getElem? hx)
    have hj : j < (rngL (1 + v % most)).length := (List.getElem?_eq_some_iff.mp hx).1
    rw [rngL_len] at hj
    obtain ⟨c, hc⟩ := cel (s := s) (k := 1 + x) (by omega)
    obtain ⟨n, hn, n0⟩ := mxd c x
    obtain ⟨a, ha, a1, a2⟩ := pnt (k := v / most % 6) n0
    obtain ⟨q, hq, q2⟩ := grw (b := v / most / 6) (n := n) a1 a2
    simp only [bind2_s, hc, bind_s, hn, ha, ofdiv_q _ (show (0 : Int) < 6 by decide) (show (6 : Int) < 18446744073709551616 by decide), bind4_s, hq, onin_s, oite_s]
    by_cases hm : q ∈ g
    · rw [if_neg (by simp [hm])]
      exact ⟨g, .inl rfl, i1, by omega, fun _ z => (by rw [z] at hm; cases hm), i4⟩
    · rw [if_pos (by simp [hm])]
      refine ⟨g ++ [q], .inl ?_, List.nodup_append.mpr ⟨i1, by simp, fun x hx y hy e => hm (by rw [List.mem_singleton.mp hy] at e; rw [← e]; exact hx)⟩, by rw [List.length_append]; exact Nat.add_le_add_right i2 1, fun _ => by simp, fun p hp => ?_⟩
      · rw [oapp_s (by omega)]
        rfl
      · rcases List.mem_append.mp hp with h | h
        · exact i4 p h
        · rw [List.mem_singleton.mp h]
          exact q2
  · rw [rngL_len] at i2 i3
    exact ⟨g, rfl, i3 (by omega), i1, by omega, i4⟩
theorem foff {pts : List Pt} (hp : ∀ p ∈ pts, pb p) {o0 o1 : Int} {R : List Int} (hin : ∀ x ∈ o0 :: o1 :: R, 0 ≤ x ∧ x < pts.length) : m_first_off pts (o0 :: o1 :: R) = some ((2 + (R.takeWhile fun x => decide (area (ptAt pts o0) (ptAt pts o1) (ptAt pts x) = 0)).length : Nat) : Int) := by
  have at_ : ∀ x ∈ o0 :: o1 :: R, oidx (some pts) (some x) = some (ptAt pts x) ∧ pb (ptAt pts x) := fun x hx => ⟨ptAt_idx (hin x hx).1 (hin x hx).2, hp _ (ptAt_mem (hin x hx).1 (hin x hx).2)⟩
  obtain ⟨a0, b0⟩ := at_ o0 (by simp)
  obtain ⟨a1, b1⟩ := at_ o1 (by simp)
  have key : ∀ (B A : List Int), A ++ B = R → loopW (fun (g1 : (Int)) => (oand (olt (some g1) (olen (some (o0 :: o1 :: R)))) (oeq (bind3 (oidx (some pts) (oidx (some (o0 :: o1 :: R)) (some (0 : Int)))) (oidx (some pts) (oidx (some (o0 :: o1 :: R)) (some (1 : Int)))) (oidx (some pts) (oidx (some (o0 :: o1 :: R)) (some g1))) m_turn) (some (0 : Int))))) (fun (g1 : (Int)) => (Option.bind (oadd (some g1) (some (1 : Int))) fun (v_many : Int) => (some (.go (v_many) : Out Int (Int))))) ((2 + A.length : Nat) : Int) = some (.go ((2 + A.length + (B.takeWhile fun x => decide (area (ptAt pts o0) (ptAt pts o1) (ptAt pts x) = 0)).length : Nat) : Int)) := by
    intro B
    induction B with
    | nil =>
      intro A hA
      rw [List.append_nil] at hA
      subst hA
      exact loopW_f (by rw [olen_s, olt_s, show decide (((2 + A.length : Nat) : Int) < ((o0 :: o1 :: A).length : Int)) = false from decide_eq_false (by simp only [List.length_cons]; omega)]; rfl)
    | cons b B ih =>
      intro A hA
      have hb : b ∈ R := by rw [← hA]; simp
      obtain ⟨ab, bb⟩ := at_ b (by simp [hb])
      have gb : oidx (some (o0 :: o1 :: R)) (some ((2 + A.length : Nat) : Int)) = some b := by
        rw [idx_nat, ← hA, show 2 + A.length = (A.length + 1) + 1 by omega, List.getElem?_cons_succ, List.getElem?_cons_succ]
        simp
      have cond : oand (olt (some ((2 + A.length : Nat) : Int)) (olen (some (o0 :: o1 :: R)))) (oeq (bind3 (oidx (some pts) (oidx (some (o0 :: o1 :: R)) (some (0 : Int)))) (oidx (some pts) (oidx (some (o0 :: o1 :: R)) (some (1 : Int)))) (oidx (some pts) (oidx (some (o0 :: o1 :: R)) (some ((2 + A.length : Nat) : Int)))) m_turn) (some (0 : Int))) = some (decide (sgn (area (ptAt pts o0) (ptAt pts o1) (ptAt pts b)) = 0)) := by
        rw [olen_s, olt_s, show decide (((2 + A.length : Nat) : Int) < ((o0 :: o1 :: R).length : Int)) = true from decide_eq_true (by rw [← hA]; simp only [List.length_cons, List.length_append]; omega), gb, ab, idx_0, idx_1, a0, a1, bind3_s, tn b0 b1 bb, oeq_s, oand_s, if_pos rfl]
      by_cases hz : area (ptAt pts o0) (ptAt pts o1) (ptAt pts b) = 0
      · have e1 : (b :: B).takeWhile (fun x => decide (area (ptAt pts o0) (ptAt pts o1) (ptAt pts x) = 0)) = b :: B.takeWhile (fun x => decide (area (ptAt pts o0) (ptAt pts o1) (ptAt pts x) = 0)) := by rw [List.takeWhile_cons, if_pos (decide_eq_true hz)]
        rw [e1]
        have := ih (A ++ [b]) (by rw [← hA]; simp)
        rw [List.length_append, List.length_singleton] at this
        refine (loopW_t (g' := ((2 + (A.length + 1) : Nat) : Int)) (by rw [cond, hz]; rfl) ?_).trans (this.trans ?_)
        · rw [oadd_s, bind_s]
          congr 2
        · rw [List.length_cons]
          congr 3
          omega
      · have e1 : (b :: B).takeWhile (fun x => decide (area (ptAt pts o0) (ptAt pts o1) (ptAt pts x) = 0)) = [] := by rw [List.takeWhile_cons, if_neg (by rw [decide_eq_true_eq]; exact hz)]
        rw [e1]
        exact loopW_f (by rw [cond, show decide (sgn (area (ptAt pts o0) (ptAt pts o1) (ptAt pts b)) = 0) = false from decide_eq_false fun z => hz (sgn_eq0.mp z)])
  unfold m_first_off mb_first_off
  rw [bind_s]
  have := key R [] rfl
  rw [List.length_nil] at this
  show retv (thenO (loopW _ _ ((2 + 0 : Nat) : Int)) _) = _
  rw [this, thenO_go]
  rfl
theorem foff1 {pts : List Pt} {o : Int} : m_first_off pts [o] = some 2 := by
  unfold m_first_off mb_first_off
  rw [bind_s, loopW_eq, olen_s, olt_s]
  rfl
theorem jnd {X Y : List (Int × Int)} {G : List Int} (q : Int) (e : Y ++ X = prs G) (nd : G.Nodup) (hY : Y ≠ []) (hl : G.length ≤ 1000) : m_joined (X ++ Y) q = some (G ++ [q]) := by
  have lenp : (prs G).length = G.length - 1 := prs_len G
  have lenXY : Y.length + X.length = (prs G).length := by rw [← e, List.length_append]
  have lY : 0 < Y.length := List.length_pos_iff.mpr hY
  have Kne : X ++ Y ≠ [] := by simp [hY]
  -- the pair at a place of kept, and the one ahead of it
  have at_ : ∀ k, k < X.length → ∃ a b c, oidx (some (X ++ Y)) (osub (some (k : Int)) (some (1 : Int))) = some (a, b) ∧ oidx (some (X ++ Y)) (some (k : Int)) = some (b, c) := fun k hk => by
    have e1 : (X ++ Y)[k]? = (prs G)[Y.length + k]? := by rw [← e, List.getElem?_append_left hk, List.getElem?_append_right (by omega)]; congr 1; omega
    have e2 : oidx (some (X ++ Y)) (osub (some (k : Int)) (some (1 : Int))) = (prs G)[Y.length + k - 1]? := by
      rw [osub_s]
      cases k with
      | zero =>
        show oidx _ (some (-1 : Int)) = _
        rw [idx_last Kne, List.getLast?_append, ← e, List.getElem?_append_left (by omega), List.getLast?_eq_getElem?]
        simp only [Nat.add_zero]
        rw [List.getElem?_eq_getElem (by omega)]
        rfl
      | succ k =>
        rw [show (((k + 1 : Nat) : Int) - 1) = (k : Int) by omega, idx_nat, ← e, List.getElem?_append_left (by omega), List.getElem?_append_right (by omega)]
        congr 1
        omega
    obtain ⟨a, b, c, h1, h2⟩ := prs_next G (i := Y.length + k - 1) (by omega)
    rw [show Y.length + k - 1 + 1 = Y.length + k by omega] at h2
    exact ⟨a, b, c, by rw [e2, h1], by rw [idx_nat, e1, h2]⟩
  obtain ⟨g0, g1, hfst, hlst, hne⟩ := prs_ends (G := G) (by omega) nd
  have stop : ∃ a b, oidx (some (X ++ Y)) (osub (some (X.length : Int)) (some (1 : Int))) = some (a, g1) ∧ oidx (some (X ++ Y)) (some (X.length : Int)) = some (g0, b) := by
    obtain ⟨b, hb⟩ := hfst
    obtain ⟨a, ha⟩ := hlst
    refine ⟨a, b, ?_, ?_⟩
    · rw [osub_s]
      cases hX : X.length with
      | zero =>
        have : X = [] := List.length_eq_zero_iff.mp hX
        subst this
        show oidx _ (some (-1 : Int)) = _
        rw [idx_last Kne]
        rw [List.append_nil] at e
        rw [List.nil_append, e]
        exact ha
      | succ k =>
        rw [show (((k + 1 : Nat) : Int) - 1) = (k : Int) by omega, idx_nat, List.getElem?_append_left (by omega)]
        rw [← ha, ← e, List.getLast?_append, List.getLast?_eq_getElem?, hX, Nat.add_sub_cancel, List.getElem?_eq_getElem (by omega)]
        rfl
    · rw [idx_nat, List.getElem?_append_right (Nat.le_refl _), Nat.sub_self, ← hb, ← e, List.getElem?_append_left lY]
  have key : ∀ m k, k + m = X.length → loopW (fun (g1 : (Int)) => (oeq (osnd (oidx (some (X ++ Y)) (osub (some g1) (some (1 : Int))))) (ofst (oidx (some (X ++ Y)) (some g1))))) (fun (g1 : (Int)) => (Option.bind (oadd (some g1) (some (1 : Int))) fun (v_k : Int) => (some (.go (v_k) : Out (List Int) (Int))))) (k : Int) = some (.go (X.length : Int)) := by
    intro m
    induction m with
    | zero =>
      intro k hk
      obtain ⟨a, b, h1, h2⟩ := stop
      rw [Nat.add_zero] at hk
      rw [hk]
      exact loopW_f (by rw [h1, h2, osnd_s, ofst_s, oeq_s, show decide (g1 = g0) = false from decide_eq_false fun z => hne z.symm])
    | succ m ih =>
      intro k hk
      obtain ⟨a, b, c, h1, h2⟩ := at_ k (by omega)
      exact (loopW_t (g' := ((k + 1 : Nat) : Int)) (by rw [h1, h2, osnd_s, ofst_s, oeq_s, show decide (b = b) = true from decide_eq_true rfl]) (by rw [oadd_s, bind_s]; congr 2)).trans (ih (k + 1) (by omega))
  unfold m_joined mb_joined
  rw [bind_s]
  have k0 := key X.length 0 (by omega)
  show retv (thenO (loopW _ _ ((0 : Nat) : Int)) _) = _
  rw [k0, thenO_go, cut_from, cut_to, List.drop_left, List.take_left, ocat_s (by omega), e, bind_s, bind_s, if_pos (show capOk (prs G).length = true from decide_eq_true (by omega)), lcM_map (fun x : Int × Int => x.1) _ _ (fun x _ => ofst_s x), show oneg (some (1 : Int)) = some (-1) from rfl, idx_last (by rw [← e]; simp [hY])]
  obtain ⟨a, ha⟩ := hlst
  rw [ha, osnd_s, ocons_s, ocons_s, ocat_s (by rw [List.length_map]; simp; omega)]
  show some (List.map (fun x : Int × Int => x.1) (prs G) ++ ([g1] ++ [q])) = _
  rw [← List.append_assoc, prs_fst G ha]
/-- a point is met: what is seen, what stays -/
theorem inner {pts : List Pt} (hp : ∀ p ∈ pts, pb p) {A : List Int} {q : Int} {t : List Tri} (hA : ∀ x ∈ A, 0 ≤ x ∧ x < pts.length) (hq : 0 ≤ q ∧ q < pts.length) (ht : t.length + A.length ≤ 100000) :
    loopL (fun (x7 : Int) (g6 : ((List Tri) × (List (Int × Int)))) => (Option.bind (oidx (some A) (some x7)) fun (v_one : Int) => (Option.bind (oidx (some A) (omod (oadd (some x7) (some (1 : Int))) (olen (some A)))) fun (v_other : Int) => (thenO (oite (olt (bind3 (oidx (some pts) (some v_one)) (oidx (some pts) (some v_other)) (oidx (some pts) (some q)) m_turn) (some (0 : Int))) (Option.bind (oapp g6.1 (omk3 (some v_other) (some v_one) (some q))) fun (v_triangles : List Tri) => (some (.go (v_triangles, g6.2) : Out ((List Tri) × (List Int)) ((List Tri) × (List (Int × Int)))))) (Option.bind (oapp g6.2 (omk2 (some v_one) (some v_other))) fun (v_kept : List (Int × Int)) => (some (.go (g6.1, v_kept) : Out ((List Tri) × (List Int)) ((List Tri) × (List (Int × Int))))))) fun (g8 : ((List Tri) × (List (Int × Int)))) => (some (.go (g8.1, g8.2) : Out ((List Tri) × (List Int)) ((List Tri) × (List (Int × Int))))))))) (rngL (A.length : Int)) (t, []) =
      some (.go (t ++ ((cyc A).filter fun e => !keep (ptAt pts) q e).map (triOf q), (cyc A).filter (keep (ptAt pts) q))) := by
  have lc : (cyc A).length = A.length := cyc_len A
  refine loop_res (Inv := fun j (g : List Tri × List (Int × Int)) => g = (t ++ (((cyc A).take j).filter fun e => !keep (ptAt pts) q e).map (triOf q), ((cyc A).take j).filter (keep (ptAt pts) q))) (by simp) (fun j x g hx hI => ?_) (fun g' hI => ?_)
  case refine_2 =>
    rw [rngL_lenN] at hI
    rw [hI, show A.length = (cyc A).length from lc.symm, List.take_length]
  · skip
    have hj : j < A.length := by have := (List.getElem?_eq_some_iff.mp hx).1; rwa [rngL_lenN] at this
    rw [rngL_at _ _ hj] at hx
    cases hx
    obtain ⟨a, b, h1, h2, h3⟩ := cyc_get A hj
    have ma := hA a (List.mem_of_getElem? h1)
    have mb := hA b (List.mem_of_getElem? h2)
    have tk : (cyc A).take (j + 1) = (cyc A).take j ++ [(a, b)] := by rw [List.take_succ, h3]; rfl
    have l1 : (((cyc A).take j).filter fun e => !keep (ptAt pts) q e).length ≤ A.length := Nat.le_trans (List.length_filter_le ..) (by rw [List.length_take]; omega)
    have l2 : (((cyc A).take j).filter (keep (ptAt pts) q)).length ≤ A.length := Nat.le_trans (List.length_filter_le ..) (by rw [List.length_take]; omega)
    subst hI
    refine ⟨_, .inl ?_, rfl⟩
    dsimp only
    rw [idx_nat, h1, bind_s, olen_s, oadd_s, omod_s _ (by omega), show (((j : Int) + 1) % (A.length : Int)) = (((j + 1) % A.length : Nat) : Int) from (Int.natCast_emod (j + 1) A.length).symm, idx_nat, h2, bind_s, ptAt_idx ma.1 ma.2, ptAt_idx mb.1 mb.2, ptAt_idx hq.1 hq.2, bind3_s, tn (hp _ (ptAt_mem ma.1 ma.2)) (hp _ (ptAt_mem mb.1 mb.2)) (hp _ (ptAt_mem hq.1 hq.2)), olt_s, oite_s, tk, List.filter_append, List.filter_append]
    by_cases hk : 0 ≤ area (ptAt pts a) (ptAt pts b) (ptAt pts q)
    · have e1 : keep (ptAt pts) q (a, b) = true := decide_eq_true hk
      rw [if_neg (by rw [decide_eq_true_eq, sgn_lt0]; omega), omk2_s, oapp_s (by omega), bind_s, thenO_go, List.filter_cons_of_pos (p := keep (ptAt pts) q) e1, List.filter_cons_of_neg (p := fun e => !keep (ptAt pts) q e) (by rw [e1]; exact Bool.false_ne_true)]
      simp
    · have e1 : keep (ptAt pts) q (a, b) = false := decide_eq_false hk
      rw [if_pos (by rw [decide_eq_true_eq, sgn_lt0]; omega), omk3_s, oapp_s (by rw [List.length_append, List.length_map]; omega), bind_s, thenO_go, List.filter_cons_of_neg (p := keep (ptAt pts) q) (by rw [e1]; exact Bool.false_ne_true), List.filter_cons_of_pos (p := fun e => !keep (ptAt pts) q e) (by rw [e1]; rfl)]
      simp [triOf]
theorem ino {pts : List Pt} (hl : pts.length ≤ 1000) : m_in_order pts = some (ordr pts) := by
  unfold m_in_order mb_in_order
  rw [ord_all (by omega)]
  rfl
theorem swp {pts : List Pt} (hp : ∀ p ∈ pts, pb p) (nd : pts.Nodup) (hl : pts.length ≤ 100) (hn : pts ≠ []) (J : List Int → List Tri → List Int → Prop)
    (J0 : ∀ o0 o1 R z rest row, ordr pts = o0 :: o1 :: R ++ z :: rest → (∀ x ∈ R, area (ptAt pts o0) (ptAt pts o1) (ptAt pts x) = 0) → (0 < area (ptAt pts o0) (ptAt pts o1) (ptAt pts z) ∧ row = o0 :: o1 :: R ∨ area (ptAt pts o0) (ptAt pts o1) (ptAt pts z) < 0 ∧ row = (o0 :: o1 :: R).reverse) → HullAt (ptAt pts) (o0 :: o1 :: R ++ [z]) (row ++ [z]) → J (o0 :: o1 :: R ++ [z]) ((prs row).map fun e => ⟨e.1, e.2, z⟩) (row ++ [z]))
    (J1 : ∀ D q rest tr A A', ordr pts = D ++ q :: rest → HullAt (ptAt pts) D A → J D tr A → Grown (ptAt pts) q A A' → HullAt (ptAt pts) (D ++ [q]) A' → J (D ++ [q]) (tr ++ ((cyc A).filter fun e => !keep (ptAt pts) q e).map (triOf q)) A') :
    (m_swept pts = some ([], ordr pts) ∧ (∀ o0 o1 R, ordr pts = o0 :: o1 :: R → ∀ x ∈ R, area (ptAt pts o0) (ptAt pts o1) (ptAt pts x) = 0)) ∨
      (∃ tr A, m_swept pts = some (tr, A) ∧ HullAt (ptAt pts) (ordr pts) A ∧ J (ordr pts) tr A ∧ A.length ≤ 2 * pts.length ∧ ∃ o0 o1 R x, ordr pts = o0 :: o1 :: R ∧ x ∈ R ∧ area (ptAt pts o0) (ptAt pts o1) (ptAt pts x) ≠ 0) := by
  have ol := ordr_len pts
  have up := ordr_up nd
  have rg : ∀ x ∈ ordr pts, 0 ≤ x ∧ x < pts.length := fun x hx => ordr_mem.mp hx
  have inj : ∀ x y, x ∈ ordr pts → y ∈ ordr pts → ptAt pts x = ptAt pts y → x = y := fun x y hx hy e => ptAt_inj nd (rg x hx).1 (rg x hx).2 (rg y hy).1 (rg y hy).2 e
  unfold m_swept mb_swept
  simp only [bind_s, ino (Nat.le_trans hl (by decide)), bind2_s]
  match ho : ordr pts with
  | [] => rw [ho] at ol; exact absurd (List.length_eq_zero_iff.mp ol.symm) hn
  | [o] =>
    refine .inl ⟨?_, fun o0 o1 R e => by cases e⟩
    rw [foff1, bind_s, olen_s, oge_s, oite_s, if_pos (by rfl)]
    rfl
  | o0 :: o1 :: R0 =>
    rw [ho] at up rg inj ol
    rw [foff hp rg, bind_s]
    have hsp := List.takeWhile_append_dropWhile (p := fun x => decide (area (ptAt pts o0) (ptAt pts o1) (ptAt pts x) = 0)) (l := R0)
    have hfl : ∀ x ∈ R0.takeWhile fun x => decide (area (ptAt pts o0) (ptAt pts o1) (ptAt pts x) = 0), area (ptAt pts o0) (ptAt pts o1) (ptAt pts x) = 0 := fun x hx => of_decide_eq_true (List.all_eq_true.mp List.all_takeWhile x hx)
    have hhd := List.head?_dropWhile_not (fun x => decide (area (ptAt pts o0) (ptAt pts o1) (ptAt pts x) = 0)) R0
    generalize hT : R0.takeWhile (fun x => decide (area (ptAt pts o0) (ptAt pts o1) (ptAt pts x) = 0)) = R at hsp hfl ⊢
    generalize R0.dropWhile (fun x => decide (area (ptAt pts o0) (ptAt pts o1) (ptAt pts x) = 0)) = B at hsp hhd
    subst hsp
    cases B with
    | nil =>
      refine .inl ⟨?_, fun a b R' e => by cases e; rw [List.append_nil]; exact hfl⟩
      rw [List.append_nil, olen_s, oge_s, oite_s, if_pos (decide_eq_true (by simp only [List.length_cons]; omega))]
      rfl
    | cons z rest =>
      have hz : area (ptAt pts o0) (ptAt pts o1) (ptAt pts z) ≠ 0 := by
        have : (fun x => decide (area (ptAt pts o0) (ptAt pts o1) (ptAt pts x) = 0)) z = false := by simpa using hhd
        exact of_decide_eq_false this
      refine .inr ?_
      have sz : R.length + rest.length + 3 = pts.length := by rw [← ol]; simp only [List.length_cons, List.length_append]; omega
      rw [olen_s, oge_s, oite_s, if_neg (by rw [decide_eq_true_eq]; simp only [List.length_cons, List.length_append]; omega)]
      have ez : (o0 :: o1 :: (R ++ z :: rest))[2 + R.length]? = some z := by
        rw [show 2 + R.length = (R.length + 1) + 1 by omega, List.getElem?_cons_succ, List.getElem?_cons_succ, List.getElem?_append_right (Nat.le_refl _), Nat.sub_self]
        rfl
      have etk : (o0 :: o1 :: (R ++ z :: rest)).take (2 + R.length) = o0 :: o1 :: R := by
        rw [show 2 + R.length = (R.length + 1) + 1 by omega, List.take_succ_cons, List.take_succ_cons, List.take_left]
      have edr : (o0 :: o1 :: (R ++ z :: rest)).drop (2 + R.length + 1) = rest := by
        rw [show 2 + R.length + 1 = (R.length + 1) + 1 + 1 by omega, List.drop_succ_cons, List.drop_succ_cons, show R ++ z :: rest = (R ++ [z]) ++ rest by simp, show R.length + 1 = (R ++ [z]).length by simp, List.drop_left]
      have r0 := rg o0 (by simp)
      have r1 := rg o1 (by simp)
      have rz := rg z (by simp)
      rw [cut_to, etk, bind_s, idx_0, idx_1, idx_nat, ez, ptAt_idx r0.1 r0.2, ptAt_idx r1.1 r1.2, ptAt_idx rz.1 rz.2, bind3_s, tn (hp _ (ptAt_mem r0.1 r0.2)) (hp _ (ptAt_mem r1.1 r1.2)) (hp _ (ptAt_mem rz.1 rz.2)), olt_s, oite_s]
      have up1 : (o0 :: o1 :: R ++ [z]).Pairwise fun a b => lx (ptAt pts a) (ptAt pts b) := by
        rw [show o0 :: o1 :: (R ++ z :: rest) = (o0 :: o1 :: R ++ [z]) ++ rest by simp] at up
        exact (List.pairwise_append.mp up).1
      obtain ⟨row, hrow, hst, hlen⟩ : ∃ row, (0 < area (ptAt pts o0) (ptAt pts o1) (ptAt pts z) ∧ row = o0 :: o1 :: R ∨ area (ptAt pts o0) (ptAt pts o1) (ptAt pts z) < 0 ∧ row = (o0 :: o1 :: R).reverse) ∧
          (if decide (sgn (area (ptAt pts o0) (ptAt pts o1) (ptAt pts z)) < 0) = true then (Option.bind (orev (some (o0 :: o1 :: R))) fun (v_row : (List Int)) => (some (.go (v_row) : Out ((List Tri) × (List Int)) ((List Int))))) else (some (.go (o0 :: o1 :: R) : Out ((List Tri) × (List Int)) ((List Int))))) = some (.go row) ∧ row.length = R.length + 2 := by
        by_cases h : area (ptAt pts o0) (ptAt pts o1) (ptAt pts z) < 0
        · exact ⟨_, .inr ⟨h, rfl⟩, by rw [if_pos (by rw [decide_eq_true_eq, sgn_lt0]; exact h)]; rfl, by simp⟩
        · exact ⟨_, .inl ⟨by omega, rfl⟩, by rw [if_neg (by rw [decide_eq_true_eq, sgn_lt0]; exact h)], rfl⟩
      rw [hst, thenO_go, osub_s, show (((2 + R.length : Nat) : Int) - 1) = ((R.length + 1 : Nat) : Int) by omega, orng_s (by omega) (by omega), bind_s, if_pos (show capOk (rngL ((R.length + 1 : Nat) : Int)).length = true from decide_eq_true (by rw [rngL_lenN]; omega))]
      have epl : ((prs row).map fun e => (⟨e.1, e.2, z⟩ : Tri)).length = R.length + 1 := by rw [List.length_map, prs_len, hlen]; omega
      have elc : lcM oYes (fun (x2 : Int) => (omk3 (oidx (some row) (some x2)) (oidx (some row) (oadd (some x2) (some (1 : Int)))) (some z))) (rngL ((R.length + 1 : Nat) : Int)) = some ((prs row).map fun e => (⟨e.1, e.2, z⟩ : Tri)) := by
        rw [← epl]
        refine lcM_rng _ _ fun i hi => ?_
        rw [epl] at hi
        rw [List.getElem?_map, (prs_get row i (a := row[i]'(by omega)) (b := row[i + 1]'(by omega))).mpr ⟨List.getElem?_eq_getElem _, List.getElem?_eq_getElem _⟩, idx_nat, oadd_s, show ((i : Int) + 1) = ((i + 1 : Nat) : Int) by omega, idx_nat, List.getElem?_eq_getElem (by omega), List.getElem?_eq_getElem (by omega)]
        rfl
      have hul : HullAt (ptAt pts) (o0 :: o1 :: R ++ [z]) (row ++ [z]) := by
        rcases hrow with ⟨h, rfl⟩ | ⟨h, rfl⟩
        · exact ⟨[], o1 :: R, o0, z, rfl, hull_left up1 hfl h, List.getLast?_concat ..⟩
        · exact ⟨(o1 :: R).reverse, [], o0, z, by simp, hull_right up1 hfl h, List.getLast?_concat ..⟩
      have j0 := J0 o0 o1 R z rest row (by rw [ho]; simp) hfl hrow hul
      rw [elc, bind_s, ocons_s, ocat_s (by rw [hlen]; simp; omega), bind_s, oadd_s, show (((2 + R.length : Nat) : Int) + 1) = ((2 + R.length + 1 : Nat) : Int) by omega, cut_from, edr, bind_s]
      refine loop_splitE (Inv := fun D (g : List Tri × List Int) => HullAt (ptAt pts) D g.2 ∧ J D g.1 g.2 ∧ g.1.length ≤ 400 * D.length ∧ g.2.length ≤ 2 * D.length) (Post := fun o => ∃ tr A, retv o = some (tr, A) ∧ HullAt (ptAt pts) (o0 :: o1 :: (R ++ z :: rest)) A ∧ J (o0 :: o1 :: (R ++ z :: rest)) tr A ∧ A.length ≤ 2 * pts.length ∧ ∃ a b R' x, o0 :: o1 :: (R ++ z :: rest) = a :: b :: R' ∧ x ∈ R' ∧ area (ptAt pts a) (ptAt pts b) (ptAt pts x) ≠ 0)
        (o0 :: o1 :: (R ++ z :: rest)) rest (o0 :: o1 :: R ++ [z]) _ (by simp) ⟨hul, j0, by rw [epl]; simp; omega, by simp [hlen]; omega⟩ (fun D q R' g e hI => ?_) fun g' ⟨hH, hJ, _, k9⟩ => ?_
      case refine_2 => exact ⟨g'.1, g'.2, rfl, hH, hJ, by rw [ol] at k9; exact k9, o0, o1, _, z, rfl, by simp, hz⟩
      · skip
        obtain ⟨hH, hJ, k1, k2⟩ := hI
        have hD : D.length ≤ 100 := by
          have := congrArg List.length e
          rw [ol, List.length_append] at this
          omega
        have inD : ∀ x ∈ D, x ∈ o0 :: o1 :: (R ++ z :: rest) := fun x hx => by rw [e]; exact List.mem_append.mpr (.inl hx)
        obtain ⟨A', hg, hH'⟩ := grow (by rw [← e]; exact up) (fun x y hx hy => inj x y (inD x hx) (inD y hy)) hH
        have hA : ∀ x ∈ g.2, 0 ≤ x ∧ x < pts.length := fun x hx => rg x (inD x (by
          obtain ⟨U, Lo, l, r, eA, H, _⟩ := hH
          rw [eA] at hx
          rcases List.mem_append.mp (show x ∈ U ++ (l :: Lo ++ [r]) by simpa using hx) with h | h
          · exact H.upp.inS x (by simp [h])
          · exact H.low.inS x h))
        have rq := rg q (by rw [e]; simp)
        obtain ⟨X, Y, G, f1, f2, f3, f4, rfl⟩ := hg
        have hG : G.length ≤ g.2.length + 1 := by
          have h1 := prs_len G
          have h2 : (X ++ Y).length ≤ (cyc g.2).length := by rw [← f1]; exact List.length_filter_le ..
          rw [cyc_len] at h2
          have h3 := congrArg List.length f2
          rw [List.length_append] at h2 h3
          omega
        refine ⟨(g.1 ++ ((cyc g.2).filter fun e => !keep (ptAt pts) q e).map (triOf q), G ++ [q]), ?_, hH', ?_, ?_, ?_⟩
        · rw [show orng (olen (some g.2)) = some (rngL (g.2.length : Int)) by rw [olen_s, orng_s (by omega) (by omega)], bind_s, inner (t := g.1) hp hA rq (by omega), thenO_go]
          rw [f1, jnd q f2 f4 f3 (by omega), bind_s]
        · exact J1 D q R' g.1 g.2 _ (by rw [ho, e]) hH hJ ⟨X, Y, G, f1, f2, f3, f4, rfl⟩ hH'
        · have : (((cyc g.2).filter fun e => !keep (ptAt pts) q e).map (triOf q)).length ≤ (cyc g.2).length := by rw [List.length_map]; exact List.length_filter_le ..
          rw [cyc_len] at this
          rw [List.length_append, List.length_append, List.length_singleton]
          omega
        · simp only [List.length_append, List.length_singleton]
          omega
theorem hll {pts : List Pt} {t : List Tri} {A B R : List Int} {o : Int} (hs : m_swept pts = some (t, A ++ o :: B)) (ho : ordr pts = o :: R) (nd : (A ++ o :: B).Nodup) (hl : (A ++ o :: B).length ≤ 1000) (hp : pts.length ≤ 1000) : m_hull pts = some (o :: B ++ A) := by
  unfold m_hull mb_hull
  rw [bind_s, ino hp, bind_s, bind_s, hs, osnd_s, bind_s, ho, idx_0]
  have e : oindx (some (A ++ o :: B)) (some o) = some (A.length : Int) := oindx_at nd (by rw [List.getElem?_append_right (Nat.le_refl _), Nat.sub_self]; rfl)
  rw [e, bind_s, cut_from, cut_to, List.drop_left, List.take_left, ocat_s (by rw [List.length_append] at hl; omega), oret_s, retv_ret]
theorem rld (t : Tri) : m_rolled t = some (rol t) := by
  unfold m_rolled mb_rolled
  exact rol_mir t
/-- the spread triangles: none for points in a row, else a net -/
theorem spr {pts : List Pt} (hp : ∀ p ∈ pts, pb p) (nd : pts.Nodup) (hl : pts.length ≤ 40) (hn : pts ≠ []) :
    (m_spread pts = some [] ∧ m_swept pts = some ([], ordr pts) ∧ RowP pts) ∨
      ∃ tr A, m_spread pts = some (tld tr) ∧ m_swept pts = some (tr, A) ∧ HullAt (ptAt pts) (ordr pts) A ∧ Swept (ptAt pts) (ordr pts) tr A ∧ ¬ RowP pts := by
  have ol := ordr_len pts
  rcases swp hp nd (by omega) hn (Swept (ptAt pts)) (fun o0 o1 R z rest row e flat hrow _ => swept_0 (by
      have := ordr_up nd
      rw [e, show o0 :: o1 :: R ++ z :: rest = (o0 :: o1 :: R ++ [z]) ++ rest by simp] at this
      exact (List.pairwise_append.mp this).1) flat hrow) (fun D q rest tr A A' e hA hS g _ => swept_1 hS (by obtain ⟨U, Lo, l, r, rfl, H, _⟩ := hA; exact H.nd) (fun x hx => hullAt_mem hA hx) (fun h => by
      have := ordr_nodup pts
      rw [e] at this
      exact (List.nodup_append.mp this).2.2 q h q (by simp) rfl) g) with ⟨hs, hf⟩ | ⟨tr, A, hs, hA, hJ, hAl, hnf⟩
  · refine .inl ⟨?_, hs, rowP_of nd hn hf⟩
    unfold m_spread mb_spread
    rw [bind_s, hs, ofst_s, bind_s]
    show retv (oret (osort (some ([] : List Tri)))) = _
    rw [osort_T, show srtT [] = [] from List.eq_nil_of_length_eq_zero (srtT_perm []).length_eq]
    rfl
  · refine .inr ⟨tr, A, ?_, hs, hA, hJ, not_rowP nd hnf⟩
    have num := hJ.num
    unfold m_spread mb_spread
    rw [bind_s, hs, ofst_s, bind_s, if_pos (show capOk tr.length = true from decide_eq_true (by omega)), lcM_map rol (fun (x1 : Tri) => (Option.bind (some x1) m_rolled)) _ (fun x _ => rld x), osort_T]
    rfl
theorem tps {N : List Tri} (h : N.length ≤ 1000) : m_tops N = some (Du.mk (stD N)) := by
  unfold m_tops mb_tops
  rw [bind_s]
  have put : ∀ (g : List ((Int × Int) × Int)) (a b c : Int), g.length ≤ 100000 → odput (MD.mk (κ := (Int × Int)) (β := Int) g) (omk2 (some a) (some b)) (some c) = some (dput g (a, b) c) := fun g a b c hg => by
    show (if capOk g.length = true then some (dput g (a, b) c) else none) = _
    rw [if_pos (show capOk g.length = true from decide_eq_true (by omega))]
  obtain ⟨h1, _⟩ := loop_fold (f := fun (x2 : Tri) (g1 : ((List ((Int × Int) × Int)))) => (Option.bind (odput (MD.mk (κ := (Int × Int)) (β := Int) g1) (omk2 (some x2.a) (some x2.b)) (some x2.c)) fun (v_found : List ((Int × Int) × Int)) => (Option.bind (odput (MD.mk (κ := (Int × Int)) (β := Int) v_found) (omk2 (some x2.b) (some x2.c)) (some x2.a)) fun (v_found : List ((Int × Int) × Int)) => (Option.bind (odput (MD.mk (κ := (Int × Int)) (β := Int) v_found) (omk2 (some x2.c) (some x2.a)) (some x2.b)) fun (v_found : List ((Int × Int) × Int)) => (some (.go (v_found) : Out (Du (Int × Int) Int) ((List ((Int × Int) × Int)))))))))
    (step := fun g t => dps g (ent t)) (Inv := fun i g => g.length ≤ 3 * i) N 0 [] (fun j x g hx hg => by
      have hj := (List.getElem?_eq_some_iff.mp hx).1
      have l1 := dput_len g (x.a, x.b) x.c
      have l2 := dput_len (dput g (x.a, x.b) x.c) (x.b, x.c) x.a
      have l3 := dput_len (dput (dput g (x.a, x.b) x.c) (x.b, x.c) x.a) (x.c, x.a) x.b
      refine ⟨?_, by show (dput (dput (dput g (x.a, x.b) x.c) (x.b, x.c) x.a) (x.c, x.a) x.b).length ≤ _; omega⟩
      rw [put _ _ _ _ (by omega), bind_s, put _ _ _ _ (by omega), bind_s, put _ _ _ _ (by omega), bind_s]
      rfl) (Nat.le_refl _)
  rw [h1]
  have go : ∀ (N : List Tri) (g : List ((Int × Int) × Int)), N.foldl (fun g t => dps g (ent t)) g = dps g (ents N) := by
    intro N
    induction N with
    | nil => intro g; rfl
    | cons t r ih =>
      intro g
      rw [List.foldl_cons, ih]
      show _ = dps g (ent t ++ ents r)
      unfold dps
      rw [List.foldl_append]
  show some (Du.mk (N.foldl (fun g t => dps g (ent t)) [])) = _
  rw [go]
  rfl
theorem bd_rng {pts : List Pt} (hp : ∀ p ∈ pts, pb p) (hl : pts.length ≤ 60) : Bd (ptAt pts) (rngL (pts.length : Int)) := fun i hi => by
  have := mem_rngL.mp hi
  exact ⟨hp _ (ptAt_mem this.1 this.2), this.1, by omega⟩
theorem isw {pts : List Pt} (hp : ∀ p ∈ pts, pb p) (hl : pts.length ≤ 60) {N : List Tri} {D : List ((Int × Int) × Int)} (H : Net (ptAt pts) (rngL (pts.length : Int)) N) (M : DM D N) {a b c e : Int} (h1 : Tr N a b c) (h2 : Tr N b a e) :
    m_is_wrong pts (Du.mk D) (a, b) = some (decide (0 < Lam (ptAt pts) (hgt (ptAt pts)) a b c e)) := by
  have rg_ : ∀ {x y z}, Tr N x y z → (0 ≤ x ∧ x < (pts.length : Int)) ∧ (0 ≤ y ∧ y < (pts.length : Int)) ∧ (0 ≤ z ∧ z < (pts.length : Int)) := fun h => by
    have := h.inS H
    exact ⟨mem_rngL.mp this.1, mem_rngL.mp this.2.1, mem_rngL.mp this.2.2⟩
  obtain ⟨ra, rb, rc⟩ := rg_ h1
  obtain ⟨_, _, rd⟩ := rg_ h2
  have at_ : ∀ {i : Int}, 0 ≤ i ∧ i < pts.length → pb (ptAt pts i) := fun h => hp _ (ptAt_mem h.1 h.2)
  have g1 : odgetU (some (Du.mk D)) (some (a, b)) = some c := (M.2 a b c).mpr h1
  have g2 : odgetU (some (Du.mk D)) (omk2 (some b) (some a)) = some e := (M.2 b a e).mpr h2
  have P := h1.pos H
  have l := (lam_dec (bd_rng hp hl) H h1 h2).1
  unfold m_is_wrong mb_is_wrong
  rw [bind_s, g1, bind_s, g2, bind_s]
  dsimp only
  rw [ptAt_idx ra.1 ra.2, ptAt_idx rb.1 rb.2, ptAt_idx rc.1 rc.2, ptAt_idx rd.1 rd.2, bind4_s, rg (at_ ra) (at_ rb) (at_ rc) (at_ rd) (by omega), bind_s, ogt_s, oeq_s]
  rw [sgn_pos P, Int.mul_one]
  show retv (oret (oor _ (oand _ (olt (some (if e < c then e else c)) (some (if b < a then b else a)))))) = _
  rw [olt_s, oand_ss, oor_ss, oret_s, retv_ret]
  refine congrArg some ?_
  rw [← Bool.decide_and, ← Bool.decide_or]
  refine decide_eq_decide.mpr ?_
  rw [← l]
  have m1 : (if e < c then e else c) = min c e := by split <;> omega
  have m2 : (if b < a then b else a) = min a b := by split <;> omega
  rw [m1, m2]
  have z := sgn_eq0 (x := rings (ptAt pts a) (ptAt pts b) (ptAt pts c) (ptAt pts e))
  have q := sgn_lt0 (x := rings (ptAt pts a) (ptAt pts b) (ptAt pts c) (ptAt pts e))
  rw [z, show (0 < sgn (rings (ptAt pts a) (ptAt pts b) (ptAt pts c) (ptAt pts e)) ↔ 0 < rings (ptAt pts a) (ptAt pts b) (ptAt pts c) (ptAt pts e)) by omega]
theorem WS_or {p : Int → Pt} {h : Int → Int} {S : List Int} {N : List Tri} (H : Net p S N) {x : Int × Int} {c e : Int} (t1 : Tr N x.1 x.2 c) (t2 : Tr N x.2 x.1 e) : WS p h N (mn x) ↔ 0 < Lam p h x.1 x.2 c e := by
  rcases Int.lt_trichotomy x.1 x.2 with k | k | k
  · rw [mn_lt k]
    exact ⟨fun ⟨_, c', e', u1, u2, L⟩ => by rw [H.top1 u1 t1, H.top1 u2 t2] at L; exact L, fun L => ⟨k, c, e, t1, t2, L⟩⟩
  · exact absurd k (vne (t1.pos H)).1
  · rw [mn_gt k]
    refine ⟨fun ⟨_, c', e', u1, u2, L⟩ => ?_, fun L => ⟨k, e, c, t2, t1, by show 0 < Lam p h x.2 x.1 e c; rw [lam_sw]; exact L⟩⟩
    have u1 : Tr N x.2 x.1 c' := u1
    have u2 : Tr N x.1 x.2 e' := u2
    have L : 0 < Lam p h x.2 x.1 c' e' := L
    rw [H.top1 u1 t2, H.top1 u2 t1, lam_sw] at L
    exact L
theorem WS_both {p : Int → Pt} {h : Int → Int} {N : List Tri} {x : Int × Int} (w : WS p h N (mn x)) : ∃ c e, Tr N x.1 x.2 c ∧ Tr N x.2 x.1 e := by
  obtain ⟨lt, c, e, t1, t2, _⟩ := w
  rcases Int.lt_trichotomy x.1 x.2 with k | k | k
  · rw [mn_lt k] at t1 t2
    exact ⟨c, e, t1, t2⟩
  · have : mn x = (x.1, x.2) := by
      unfold mn
      rw [if_neg (by omega), if_neg (by omega)]
      exact Prod.ext rfl k
    rw [this] at lt
    exact absurd k (by dsimp only at lt; omega)
  · rw [mn_gt k] at t1 t2
    exact ⟨e, c, t2, t1⟩
theorem wrf {pts : List Pt} (hp : ∀ p ∈ pts, pb p) (hl : pts.length ≤ 60) {N : List Tri} {D : List ((Int × Int) × Int)} (H : Net (ptAt pts) (rngL (pts.length : Int)) N) (M : DM D N) {l : List (Int × Int)} (hs : l.length ≤ 1000) :
    m_wrong_of pts (Du.mk D) l = some (wof (ptAt pts) (hgt (ptAt pts)) N l) := by
  unfold m_wrong_of mb_wrong_of
  rw [bind_s, bind_s]
  obtain ⟨h1, _⟩ := loop_fold (f := fun (x2 : (Int × Int)) (g1 : ((List (Int × Int)))) => (Option.bind (omk2 (omin2 (some x2.1) (some x2.2)) (omax2 (some x2.1) (some x2.2))) fun (v_side : (Int × Int)) => (Option.bind (oand (odinU (omk2 (some x2.1) (some x2.2)) (some (Du.mk D))) (odinU (omk2 (some x2.2) (some x2.1)) (some (Du.mk D)))) fun (v_both : Bool) => (thenO (oite (oand (some v_both) (oand (onin (some v_side) (some g1)) (bind3 (some pts) (some (Du.mk D)) (some v_side) m_is_wrong))) (Option.bind (oapp g1 (some v_side)) fun (v_found : List (Int × Int)) => (some (.go (v_found) : Out (List (Int × Int)) ((List (Int × Int)))))) (some (.go (g1) : Out (List (Int × Int)) ((List (Int × Int)))))) fun (g3 : ((List (Int × Int)))) => (some (.go (g3) : Out (List (Int × Int)) ((List (Int × Int)))))))))
    (step := wstep (ptAt pts) (hgt (ptAt pts)) N) (Inv := fun i g => g.length ≤ i) l 0 [] (fun j x g hx hg => by
      have hj := (List.getElem?_eq_some_iff.mp hx).1
      refine ⟨?_, ?_⟩
      · have es : omk2 (omin2 (some x.1) (some x.2)) (omax2 (some x.1) (some x.2)) = some (mn x) := rfl
        have d1 : odinU (omk2 (some x.1) (some x.2)) (some (Du.mk D)) = some (dget D (x.1, x.2)).isSome := rfl
        have d2 : odinU (omk2 (some x.2) (some x.1)) (some (Du.mk D)) = some (dget D (x.2, x.1)).isSome := rfl
        rw [es, bind_s, d1, d2, oand_ss, bind_s, bind3_s]
        by_cases b : ∃ c e, Tr N x.1 x.2 c ∧ Tr N x.2 x.1 e
        · obtain ⟨c, e, t1, t2⟩ := b
          rw [(M.2 _ _ _).mpr t1, (M.2 _ _ _).mpr t2]
          show thenO (oite (oand (some true) _) _ _) _ = _
          rw [oand_s, if_pos rfl]
          by_cases m : mn x ∈ g
          · have on : onin (some (mn x)) (some g) = some false := by simp [onin_s, m]
            rw [on]
            unfold wstep
            rw [if_neg (fun z => z.2 m)]
            rfl
          · have on : onin (some (mn x)) (some g) = some true := by simp [onin_s, m]
            rw [on]
            have iw : m_is_wrong pts (Du.mk D) (mn x) = some (decide (0 < Lam (ptAt pts) (hgt (ptAt pts)) x.1 x.2 c e)) := by
              rcases Int.lt_trichotomy x.1 x.2 with k | k | k
              · rw [mn_lt k]
                exact isw hp hl H M t1 t2
              · exact absurd k (vne (t1.pos H)).1
              · rw [mn_gt k]
                show m_is_wrong pts (Du.mk D) (x.2, x.1) = _
                rw [isw hp hl H M t2 t1, lam_sw]
            rw [iw, oand_ss, oite_s]
            unfold wstep
            by_cases w : 0 < Lam (ptAt pts) (hgt (ptAt pts)) x.1 x.2 c e
            · rw [if_pos (by simp [w]), if_pos ⟨(WS_or H t1 t2).mpr w, m⟩, oapp_s (by omega)]
              rfl
            · rw [if_neg (by simp [w]), if_neg (fun z => w ((WS_or H t1 t2).mp z.1))]
              rfl
        · have no : ¬ WS (ptAt pts) (hgt (ptAt pts)) N (mn x) := fun w => b (WS_both w)
          have bf : ((dget D (x.1, x.2)).isSome && (dget D (x.2, x.1)).isSome) = false := by
            rw [Bool.eq_false_iff]
            intro z
            rw [Bool.and_eq_true] at z
            obtain ⟨c, hc⟩ := Option.isSome_iff_exists.mp z.1
            obtain ⟨e, he⟩ := Option.isSome_iff_exists.mp z.2
            exact b ⟨c, e, (M.2 _ _ _).mp hc, (M.2 _ _ _).mp he⟩
          rw [bf, oand_s, if_neg (by decide), oite_s, if_neg (by decide)]
          unfold wstep
          rw [if_neg (fun z => no z.1)]
          rfl
      · unfold wstep
        split
        · rw [List.length_append, List.length_singleton]
          omega
        · omega) (Nat.le_refl _)
  rw [h1]
  rfl
theorem unp2_s {α β γ : Type} (x : α) (y : β) (f : α → β → Option γ) : unp2 (some (x, y)) f = f x y := rfl
theorem tvo {D : List ((Int × Int) × Int)} {N : List Tri} {a b c e : Int} (M : DM D N) (hl : D.length ≤ 1000) (h1 : Tr N a b c) (h2 : Tr N b a e) (ne : a ≠ b) : m_turned_over D (a, b) = some (t5 a b c e, tov D a b c e) := by
  have put : ∀ (g : List ((Int × Int) × Int)) (a b c : Int), g.length ≤ 100000 → odput (MD.mk (κ := (Int × Int)) (β := Int) g) (omk2 (some a) (some b)) (some c) = some (dput g (a, b) c) := fun g a b c hg => by
    show (if capOk g.length = true then some (dput g (a, b) c) else none) = _
    rw [if_pos (show capOk g.length = true from decide_eq_true (by omega))]
  have p1 : odpop (MD.mk (κ := (Int × Int)) (β := Int) D) (omk2 (some a) (some b)) = some (c, ddrop D (a, b)) := by
    show (dget D (a, b)).bind _ = _
    rw [(M.2 a b c).mpr h1]
    rfl
  have p2 : odpop (MD.mk (κ := (Int × Int)) (β := Int) (ddrop D (a, b))) (omk2 (some b) (some a)) = some (e, ddrop (ddrop D (a, b)) (b, a)) := by
    show (dget (ddrop D (a, b)) (b, a)).bind _ = _
    rw [dget_ddrop, if_neg (fun z => ne (Prod.mk.inj z).2), (M.2 b a e).mpr h2]
    rfl
  unfold m_turned_over mb_turned_over
  rw [bind_s]
  dsimp only
  rw [p1, unp2_s, p2, unp2_s, omk3_s, omk3_s, ocons_s, ocons_s, bind_s]
  have l0 := ddrop_len (ddrop D (a, b)) (b, a)
  have l1 := ddrop_len D (a, b)
  have q1 := dput_len (ddrop (ddrop D (a, b)) (b, a)) (a, e) c
  have q2 := dput_len (dput (ddrop (ddrop D (a, b)) (b, a)) (a, e) c) (e, c) a
  have q3 := dput_len (dput (dput (ddrop (ddrop D (a, b)) (b, a)) (a, e) c) (e, c) a) (c, a) e
  have q4 := dput_len (dput (dput (dput (ddrop (ddrop D (a, b)) (b, a)) (a, e) c) (e, c) a) (c, a) e) (e, b) c
  have q5 := dput_len (dput (dput (dput (dput (ddrop (ddrop D (a, b)) (b, a)) (a, e) c) (e, c) a) (c, a) e) (e, b) c) (b, c) e
  rw [loopL_go (g' := dput (dput (dput (ddrop (ddrop D (a, b)) (b, a)) (a, e) c) (e, c) a) (c, a) e) (by
    dsimp only
    rw [put _ _ _ _ (by omega), bind_s, put _ _ _ _ (by omega), bind_s, put _ _ _ _ (by omega), bind_s]), loopL_go (g' := tov D a b c e) (by
    dsimp only
    rw [put _ _ _ _ (by omega), bind_s, put _ _ _ _ (by omega), bind_s, put _ _ _ _ (by omega), bind_s]
    rfl)]
  rfl
noncomputable def mdC : (List (Int × Int)) × (List ((Int × Int) × Int)) × (List (Int × Int)) → Option Bool := fun g1 => one_ (some g1.2.2) (some ([] : List (Int × Int)))
noncomputable def mdF (v_points : List (Int × Int)) : (List (Int × Int)) × (List ((Int × Int) × Int)) × (List (Int × Int)) → Option (Out ((List (Int × Int)) × (List Tri)) ((List (Int × Int)) × (List ((Int × Int) × Int)) × (List (Int × Int)))) := fun g1 => (Option.bind (ominL (some g1.2.2)) fun (v_side : (Int × Int)) => (Option.bind (oapp g1.1 (some v_side)) fun (v_swaps : List (Int × Int)) => (unp2 (Option.bind (some v_side) (m_turned_over g1.2.1)) fun (v_touched : (List (Int × Int))) (v_top_2 : (List ((Int × Int) × Int))) => (Option.bind (ocat (Option.bind (some v_touched) fun xs4 => if capOk xs4.length then lcM oYes (fun (x3 : (Int × Int)) => (omk2 (opmin (some x3)) (opmax (some x3)))) xs4 else none) (ocons (some v_side) (some ([] : List (Int × Int))))) fun (v_near_by : (List (Int × Int))) => (Option.bind (ocat (Option.bind (some g1.2.2) fun xs6 => if capOk xs6.length then lcM (fun (x5 : (Int × Int)) => (onin (some x5) (some v_near_by))) (fun (x5 : (Int × Int)) => (some x5)) xs6 else none) (bind3 (some v_points) (some (Du.mk (κ := (Int × Int)) (β := Int) v_top_2)) (some v_touched) m_wrong_of)) fun (v_bad : (List (Int × Int))) => (some (.go (v_swaps, v_top_2, v_bad) : Out ((List (Int × Int)) × (List Tri)) ((List (Int × Int)) × (List ((Int × Int) × Int)) × (List (Int × Int))))))))))
def nby (a b c e : Int) : List (Int × Int) := (t5 a b c e).map mn ++ [(a, b)]
theorem mstep {pts : List Pt} (hp : ∀ p ∈ pts, pb p) (hl : pts.length ≤ 60) {N : List Tri} {D : List ((Int × Int) × Int)} {sw bad : List (Int × Int)} (H : Net (ptAt pts) (rngL (pts.length : Int)) N) (M : DM D N) (hN : N.length ≤ 100) (hs : sw.length ≤ 5000) (hb : bad.length ≤ 100000) {a b c e : Int}
    (hm : ominL (some bad) = some (a, b)) (t1 : Tr N a b c) (t2 : Tr N b a e) (k1 : 0 < area (ptAt pts a) (ptAt pts e) (ptAt pts c)) (k2 : 0 < area (ptAt pts e) (ptAt pts b) (ptAt pts c)) :
    mdF pts (sw, D, bad) = some (.go (sw ++ [(a, b)], tov D a b c e, (bad.filter fun x => !decide (x ∈ nby a b c e)) ++ wof (ptAt pts) (hgt (ptAt pts)) (flp N a b c e) (t5 a b c e))) := by
  unfold mdF
  dsimp only
  have dl := M.len H
  have wl := wof_len (p := ptAt pts) (h := hgt (ptAt pts)) (N := flp N a b c e) (t5 a b c e)
  have fl : (bad.filter fun x => !decide (x ∈ nby a b c e)).length ≤ bad.length := List.length_filter_le _ _
  have l5 : (t5 a b c e).length = 5 := rfl
  rw [hm, bind_s, oapp_s (by omega), bind_s, bind_s, tvo M (by omega) t1 t2 (vne (t1.pos H)).1, unp2_s, bind_s, if_pos (show capOk (t5 a b c e).length = true from decide_eq_true (by rw [l5]; decide)),
    lcM_map mn (fun (x3 : (Int × Int)) => (omk2 (opmin (some x3)) (opmax (some x3)))) _ (fun x _ => rfl), ocons_s, ocat_s (by rw [List.length_map, l5, List.length_singleton]; decide), bind_s, bind_s, if_pos (show capOk bad.length = true from decide_eq_true (by omega)),
    lcM_filter (fun x : Int × Int => !decide (x ∈ nby a b c e)) (fun x => x) (fun (x5 : (Int × Int)) => (onin (some x5) (some ((t5 a b c e).map mn ++ [(a, b)])))) (fun (x5 : (Int × Int)) => (some x5)) _ (fun x _ => by rw [onin_s]; exact congrArg (fun b => some (!b)) (decide_eq_decide.mpr Iff.rfl)) (fun x _ _ => rfl), List.map_id', bind3_s,
    wrf hp hl (H.flp t1 t2 k1 k2) (M.turn H t1 t2 k1 k2) (by rw [l5]; decide), ocat_s (by omega), bind_s]
theorem nodup_len {α : Type} [DecidableEq α] : ∀ {l m : List α}, l.Nodup → (∀ x ∈ l, x ∈ m) → l.length ≤ m.length
  | [], m, _, _ => Nat.zero_le _
  | a :: r, m, nd, h => by
    have nd := List.nodup_cons.mp nd
    have ha := h a (by simp)
    have := nodup_len (l := r) (m := m.erase a) nd.2 fun x hx => (List.mem_erase_of_ne (fun z => nd.1 (by rw [← z]; exact hx))).mpr (h x (by simp [hx]))
    rw [List.length_erase_of_mem ha] at this
    have := List.length_pos_of_mem ha
    rw [List.length_cons]
    omega
def sq2 (n : Int) : List (Int × Int) := (rngL n).flatMap fun i => (rngL n).map fun j => (i, j)
theorem mem_sq2 {n : Int} {e : Int × Int} : e ∈ sq2 n ↔ e.1 ∈ rngL n ∧ e.2 ∈ rngL n := by
  unfold sq2
  rw [List.mem_flatMap]
  constructor
  · rintro ⟨i, hi, h⟩
    obtain ⟨j, hj, rfl⟩ := List.mem_map.mp h
    exact ⟨hi, hj⟩
  · rintro ⟨h1, h2⟩
    exact ⟨e.1, h1, List.mem_map.mpr ⟨e.2, h2, rfl⟩⟩
theorem sq2_len {n : Nat} (h : n ≤ 60) : (sq2 (n : Int)).length ≤ 3600 := by
  unfold sq2
  rw [List.length_flatMap]
  have : ((rngL (n : Int)).map fun i => ((rngL (n : Int)).map fun j => (i, j)).length) = (rngL (n : Int)).map fun _ => n := List.map_congr_left fun x _ => by rw [List.length_map, rngL_lenN]
  rw [this, List.map_const', List.sum_replicate_nat, rngL_lenN]
  exact Nat.le_trans (Nat.mul_le_mul h h) (by decide)
theorem mloop {pts : List Pt} (hp : ∀ p ∈ pts, pb p) (hl : pts.length ≤ 60) : ∀ (n : Nat) (sw : List (Int × Int)) (D : List ((Int × Int) × Int)) (bad : List (Int × Int)) (N : List Tri), Net (ptAt pts) (rngL (pts.length : Int)) N → DM D N → N.length ≤ 100 →
    (∀ e, e ∈ bad ↔ WS (ptAt pts) (hgt (ptAt pts)) N e) → bad.length ≤ 300 + 5 * sw.length → sw.Nodup → (∀ e ∈ sw, Ov (ptAt pts) (hgt (ptAt pts)) N e.1 e.2 ∧ e ∈ sq2 (pts.length : Int)) → 3600 < sw.length + n →
    ∃ sw2 D' M, loopN mdC (mdF pts) n (sw, D, bad) = some (.go (sw ++ sw2, D', [])) ∧ Run (ptAt pts) (hgt (ptAt pts)) N sw2 M ∧ Net (ptAt pts) (rngL (pts.length : Int)) M ∧ DM D' M ∧ M.length = N.length ∧ (∀ e, ¬ WS (ptAt pts) (hgt (ptAt pts)) M e)
  | 0, sw, D, bad, N, H, M, hN, hw, hb, nd, ho, hk => by
    exfalso
    have := nodup_len nd fun e he => (ho e he).2
    have := sq2_len hl
    omega
  | n + 1, sw, D, bad, N, H, M, hN, hw, hb, nd, ho, hk => by
    have hsl : sw.length ≤ 3600 := Nat.le_trans (nodup_len nd fun e he => (ho e he).2) (sq2_len hl)
    cases bad with
    | nil =>
      have no : ∀ e, ¬ WS (ptAt pts) (hgt (ptAt pts)) N e := fun e he => by
        have := (hw e).mpr he
        cases this
      refine ⟨[], D, N, ?_, .nil no, H, M, rfl, no⟩
      rw [List.append_nil]
      rfl
    | cons b0 bs =>
      obtain ⟨⟨a, b⟩, hm⟩ : ∃ s : Int × Int, s = minF b0 bs := ⟨_, rfl⟩
      have mm : ominL (some (b0 :: bs)) = some (a, b) := by rw [hm]; rfl
      have ws : WS (ptAt pts) (hgt (ptAt pts)) N (a, b) := (hw _).mp (by rw [hm]; exact minF_mem b0 bs)
      have least : ∀ e, WS (ptAt pts) (hgt (ptAt pts)) N e → leP (a, b) e = true := fun e he => by rw [hm]; exact minF_le bs b0 e ((hw e).mpr he)
      obtain ⟨lt, c, e, t1, t2, L⟩ := id ws
      have t1 : Tr N a b c := t1
      have t2 : Tr N b a e := t2
      have L : 0 < Lam (ptAt pts) (hgt (ptAt pts)) a b c e := L
      have lt : a < b := lt
      obtain ⟨k1, k2⟩ := lam_conv (bd_rng hp hl) H t1 t2 L
      have H' := H.flp t1 t2 k1 k2
      have M' := M.turn H t1 t2 k1 k2
      have fl := H.flp_len t1 t2
      have step := mstep (sw := sw) hp hl H M hN (by omega) (by omega) mm t1 t2 k1 k2
      have wl := wof_len (p := ptAt pts) (h := hgt (ptAt pts)) (N := flp N a b c e) (t5 a b c e)
      have l5 : (t5 a b c e).length = 5 := rfl
      have fl2 : ((b0 :: bs).filter fun x => !decide (x ∈ nby a b c e)).length ≤ (b0 :: bs).length := List.length_filter_le _ _
      have own : (a, b) ∉ sw := fun z => (Ov.not H t1) (ho _ z).1
      have ins := t1.inS H
      obtain ⟨sw2, D2, M2, r1, r2, r3, r4, r5, r6⟩ := mloop hp hl n (sw ++ [(a, b)]) (tov D a b c e) (((b0 :: bs).filter fun x => !decide (x ∈ nby a b c e)) ++ wof (ptAt pts) (hgt (ptAt pts)) (flp N a b c e) (t5 a b c e)) (flp N a b c e) H' M' (by omega)
        (fun f => by
          rw [List.mem_append, List.mem_filter, hw, mem_wof]
          have nb_ : (!decide (f ∈ nby a b c e)) = true ↔ (∀ t ∈ t5 a b c e, mn t ≠ f) ∧ (a, b) ≠ f := by
            rw [Bool.not_eq_true', decide_eq_false_iff_not]
            unfold nby
            rw [List.mem_append, List.mem_singleton, List.mem_map]
            constructor
            · intro h
              exact ⟨fun t ht q => h (.inl ⟨t, ht, q⟩), fun q => h (.inr q.symm)⟩
            · rintro ⟨h1, h2⟩ (⟨t, ht, q⟩ | q)
              · exact h1 t ht q
              · exact h2 q.symm
          rw [nb_]
          constructor
          · rintro (⟨w, n1, n2⟩ | ⟨w, _⟩)
            · exact (WS_same H t1 t2 w.1 n1 (by rw [mn_lt (e := (a, b)) lt]; exact n2)).mpr w
            · exact w
          · intro w
            by_cases q : ∃ t ∈ t5 a b c e, mn t = f
            · exact .inr ⟨w, q⟩
            · have n1 : ∀ t ∈ t5 a b c e, mn t ≠ f := fun t ht z => q ⟨t, ht, z⟩
              have n2 : (a, b) ≠ f := fun z => by
                rw [← z] at w
                exact WS_gone H t1 t2 k1 w
              exact .inl ⟨(WS_same H t1 t2 w.1 n1 (by rw [mn_lt (e := (a, b)) lt]; exact n2)).mp w, n1, n2⟩)
        (by rw [List.length_append, List.length_append, List.length_singleton]; omega)
        (List.nodup_append.mpr ⟨nd, by simp, fun x hx y hy => by rw [List.mem_singleton.mp hy]; exact fun z => own (by rw [← z]; exact hx)⟩)
        (fun f hf => by
          rcases List.mem_append.mp hf with hf | hf
          · exact ⟨(ho f hf).1.flp H t1 t2 k1 k2 L, (ho f hf).2⟩
          · rw [List.mem_singleton.mp hf]
            exact ⟨Ov.new (t1.pos H) (t2.pos H) k1 k2 L, mem_sq2.mpr ⟨ins.1, ins.2.1⟩⟩)
        (by rw [List.length_append, List.length_singleton]; omega)
      refine ⟨(a, b) :: sw2, D2, M2, ?_, .cons ws least t1 t2 r2, r3, r4, r5.trans fl, r6⟩
      show ((some true : Option Bool).bind fun b => if b = true then (mdF pts (sw, D, b0 :: bs)).bind _ else _) = _
      rw [bind_s, if_pos rfl, step, bind_s]
      show loopN mdC (mdF pts) n _ = _
      rw [r1, List.append_assoc]
      rfl
theorem rol_in {t : Tri} (h : inS t = true) : inS (rol t) = true := by
  rw [inS_iff] at *
  rcases rol_rot t with e | e | e
  · rw [e]; exact h
  · rw [e]; exact ⟨h.2.1, h.2.2, h.1⟩
  · rw [e]; exact ⟨h.2.2, h.1, h.2.1⟩
/-- what is told of the dict -/
theorem mtell {pts : List Pt} (hl : pts.length ≤ 60) {M : List Tri} {D : List ((Int × Int) × Int)} (H : Net (ptAt pts) (rngL (pts.length : Int)) M) (R : DM D M) (hN : M.length ≤ 21) :
    osortS (Option.bind (okeys (some (Dc.mk (κ := (Int × Int)) (β := Int) D))) fun xs8 => if capOk xs8.length then lcM oYes (fun (x7 : (Int × Int)) => (Option.bind (omk3 (some x7.1) (some x7.2) (odget (some (Dc.mk (κ := (Int × Int)) (β := Int) D)) (omk2 (some x7.1) (some x7.2)))) m_rolled)) xs8 else none) = some (tld M) := by
  have dl := R.len H
  have ok : okeys (some (Dc.mk (κ := (Int × Int)) (β := Int) D)) = some (D.map (·.1)) := rfl
  have val : ∀ x ∈ D.map (·.1), ∃ c, dget D x = some c ∧ Tr M x.1 x.2 c := fun x hx => by
    have k := dget_key (l := D) (k := x)
    rw [decide_eq_true hx] at k
    obtain ⟨c, hc⟩ := Option.isSome_iff_exists.mp k
    exact ⟨c, hc, (R.2 x.1 x.2 c).mp hc⟩
  rw [ok, bind_s, if_pos (show capOk (D.map (·.1)).length = true from decide_eq_true (by rw [List.length_map]; omega)),
    lcM_map (fun x : Int × Int => rol ⟨x.1, x.2, (dget D x).getD 0⟩) (fun (x7 : (Int × Int)) => (Option.bind (omk3 (some x7.1) (some x7.2) (odget (some (Dc.mk (κ := (Int × Int)) (β := Int) D)) (omk2 (some x7.1) (some x7.2)))) m_rolled)) _ (fun x hx => by
      obtain ⟨c, hc, _⟩ := val x hx
      have : odget (some (Dc.mk (κ := (Int × Int)) (β := Int) D)) (omk2 (some x.1) (some x.2)) = some c := hc
      rw [this, omk3_s, bind_s, rld, hc]
      rfl)]
  have ins : ∀ t ∈ (D.map (·.1)).map (fun x : Int × Int => rol ⟨x.1, x.2, (dget D x).getD 0⟩), inS t = true := fun t ht => by
    obtain ⟨x, hx, rfl⟩ := List.mem_map.mp ht
    obtain ⟨c, hc, tr⟩ := val x hx
    refine rol_in ?_
    rw [hc, inS_iff]
    have s := tr.inS H
    have s1 := mem_rngL.mp s.1
    have s2 := mem_rngL.mp s.2.1
    have s3 := mem_rngL.mp s.2.2
    show (0 ≤ x.1 ∧ x.1 < 64) ∧ (0 ≤ x.2 ∧ x.2 < 64) ∧ 0 ≤ c ∧ c < 64
    omega
  show (if (decide (((D.map (·.1)).map (fun x : Int × Int => rol ⟨x.1, x.2, (dget D x).getD 0⟩)).length < 64) && ((D.map (·.1)).map (fun x : Int × Int => rol ⟨x.1, x.2, (dget D x).getD 0⟩)).all inS) = true then some (srtT (dd ((D.map (·.1)).map (fun x : Int × Int => rol ⟨x.1, x.2, (dget D x).getD 0⟩)))) else none) = _
  rw [if_pos (by
    rw [Bool.and_eq_true]
    exact ⟨decide_eq_true (by rw [List.length_map, List.length_map]; omega), List.all_eq_true.mpr ins⟩)]
  obtain ⟨n1, m1⟩ := dd_mem ((D.map (·.1)).map (fun x : Int × Int => rol ⟨x.1, x.2, (dget D x).getD 0⟩))
  refine congrArg some (srtT_eq ((List.perm_ext_iff_of_nodup n1 H.nd_rol).mpr fun t => ?_))
  rw [m1]
  constructor
  · intro ht
    obtain ⟨x, hx, rfl⟩ := List.mem_map.mp ht
    obtain ⟨c, hc, tr⟩ := val x hx
    rw [hc]
    exact (mem_rol H (t := ⟨x.1, x.2, c⟩) (vne (tr.pos H))).mpr tr
  · intro ht
    obtain ⟨u, hu, rfl⟩ := List.mem_map.mp ht
    have tr : Tr M u.a u.b u.c := Tr.of hu
    have g := (R.2 _ _ _).mpr tr
    refine List.mem_map.mpr ⟨(u.a, u.b), ?_, ?_⟩
    · have k := dget_key (l := D) (k := (u.a, u.b))
      rw [g] at k
      exact of_decide_eq_true k.symm
    · rw [g]
      rfl
theorem mend {pts : List Pt} (hp : ∀ p ∈ pts, pb p) (hl : pts.length ≤ 60) {N : List Tri} (H : Net (ptAt pts) (rngL (pts.length : Int)) N) (hN : N.length ≤ 21) :
    ∃ sw M, m_mended pts N = some (sw, tld M) ∧ Run (ptAt pts) (hgt (ptAt pts)) N sw M ∧ Net (ptAt pts) (rngL (pts.length : Int)) M ∧ M.length = N.length ∧ (∀ e, ¬ WS (ptAt pts) (hgt (ptAt pts)) M e) := by
  have R := DM.ents H
  have dl := R.len H
  have sk : osortU (some (Du.mk (κ := (Int × Int)) (β := Int) (ents N))) = some (srtP (stps N)) := by
    show some (srtP ((ents N).map (·.1))) = _
    rw [ents_keys]
  have sl : (srtP (stps N)).length ≤ 1000 := by rw [(srtP_perm _).length_eq, stps_len]; omega
  have wl := wof_len (p := ptAt pts) (h := hgt (ptAt pts)) (N := N) (srtP (stps N))
  obtain ⟨sw, D, M, r1, r2, r3, r4, r5, r6⟩ := mloop hp hl 3601 [] (ents N) (wof (ptAt pts) (hgt (ptAt pts)) N (srtP (stps N))) N H R (by omega) (fun e => by
    rw [mem_wof]
    refine ⟨fun h => h.1, fun h => ⟨h, e, (srtP_perm _).mem_iff.mpr ?_, mn_lt h.1⟩⟩
    obtain ⟨_, c, d, t1, _⟩ := h
    exact t1.stp.1) (by rw [(srtP_perm _).length_eq, stps_len] at wl; rw [List.length_nil]; omega) List.nodup_nil (fun e he => by cases he) (by decide)
  refine ⟨sw, M, ?_, r2, r3, r5, r6⟩
  unfold m_mended mb_mended
  rw [bind_s, tps (by omega), stD_nd H.nd]
  show retv (Option.bind (bind3 (some pts) (some (Du.mk (κ := (Int × Int)) (β := Int) (ents N))) (osortU (some (Du.mk (κ := (Int × Int)) (β := Int) (ents N)))) m_wrong_of) _) = _
  rw [sk, bind3_s, wrf hp hl H R sl, bind_s, bind_s]
  have lw : loopW mdC (mdF pts) ([], ents N, wof (ptAt pts) (hgt (ptAt pts)) N (srtP (stps N))) = some (.go ([] ++ sw, D, [])) := loopW_some.mpr ⟨_, r1⟩
  show retv (thenO (loopW mdC (mdF pts) ([], ents N, wof (ptAt pts) (hgt (ptAt pts)) N (srtP (stps N)))) _) = _
  rw [lw, thenO_go, mtell hl r3 r4 (by omega)]
  rfl
theorem mend0 (pts : List Pt) : m_mended pts [] = some ([], []) := by
  unfold m_mended mb_mended
  have s0 : stD [] = [] := rfl
  have d0 : dkv (some (Du.mk (κ := (Int × Int)) (β := Int) [])) = some [] := rfl
  have k0 : osortU (some (Du.mk (κ := (Int × Int)) (β := Int) [])) = some [] := by
    show some (srtP []) = _
    rw [show srtP [] = [] from List.eq_nil_of_length_eq_zero (srtP_perm []).length_eq]
  have w0 : m_wrong_of pts (Du.mk []) [] = some [] := rfl
  rw [bind_s, tps (Nat.zero_le _), s0, d0, bind_s, k0, bind3_s, w0, bind_s, bind_s]
  have lw : loopW mdC (mdF pts) (([] : List (Int × Int)), ([] : List ((Int × Int) × Int)), ([] : List (Int × Int))) = some (.go ([], [], [])) := loopW_some.mpr ⟨1, rfl⟩
  show retv (thenO (loopW mdC (mdF pts) (([] : List (Int × Int)), ([] : List ((Int × Int) × Int)), ([] : List (Int × Int)))) _) = _
  rw [lw, thenO_go]
  show retv (oret (omk2 (some []) (some (srtT (dd []))))) = _
  rw [show srtT (dd []) = [] from List.eq_nil_of_length_eq_zero (srtT_perm _).length_eq]
  rfl
/-- a run is short: no side comes back -/
theorem run_short {pts : List Pt} (hp : ∀ p ∈ pts, pb p) (hl : pts.length ≤ 60) {N M : List Tri} {sw : List (Int × Int)} (R : Run (ptAt pts) (hgt (ptAt pts)) N sw M) : Net (ptAt pts) (rngL (pts.length : Int)) N → ∀ old : List (Int × Int), old.Nodup → (∀ e ∈ old, Ov (ptAt pts) (hgt (ptAt pts)) N e.1 e.2 ∧ e ∈ sq2 (pts.length : Int)) → old.length + sw.length ≤ 3600 := by
  induction R with
  | nil no =>
    intro _ old nd ho
    have := nodup_len nd fun e he => (ho e he).2
    have := sq2_len hl
    rw [List.length_nil]
    omega
  | @cons N M a b c d sw w le t1 t2 R ih =>
    intro H old nd ho
    have L : 0 < Lam (ptAt pts) (hgt (ptAt pts)) a b c d := (WS_or H (x := (a, b)) t1 t2).mp (by rw [mn_lt (e := (a, b)) w.1]; exact w)
    obtain ⟨k1, k2⟩ := lam_conv (bd_rng hp hl) H t1 t2 L
    have ins := t1.inS H
    have own : (a, b) ∉ old := fun z => (Ov.not H t1) (ho _ z).1
    have := ih (H.flp t1 t2 k1 k2) ((a, b) :: old) (List.nodup_cons.mpr ⟨own, nd⟩) fun e he => by
      rcases List.mem_cons.mp he with rfl | he
      · exact ⟨Ov.new (t1.pos H) (t2.pos H) k1 k2 L, mem_sq2.mpr ⟨ins.1, ins.2.1⟩⟩
      · exact ⟨(ho e he).1.flp H t1 t2 k1 k2 L, (ho e he).2⟩
    rw [List.length_cons] at this
    rw [List.length_cons]
    omega
theorem mend_len {pts : List Pt} (hp : ∀ p ∈ pts, pb p) (hl : pts.length ≤ 60) {N M : List Tri} {sw : List (Int × Int)} (H : Net (ptAt pts) (rngL (pts.length : Int)) N) (R : Run (ptAt pts) (hgt (ptAt pts)) N sw M) : sw.length ≤ 3600 := by
  have := run_short hp hl R H [] List.nodup_nil fun e he => by cases he
  rw [List.length_nil] at this
  omega
/-- near's net, and the hull that spread went round -/
theorem neah {pts : List Pt} (hp : ∀ p ∈ pts, pb p) (nd : pts.Nodup) (hl : pts.length ≤ 11) (hn : pts ≠ []) :
    (m_near pts = some [] ∧ RowP pts) ∨ ∃ M tr A, m_near pts = some (tld M) ∧ Nr (ptAt pts) (rngL (pts.length : Int)) M ∧ ¬ RowP pts ∧ M.length ≤ 21 ∧ M.length = tr.length ∧ HullAt (ptAt pts) (ordr pts) A ∧ Swept (ptAt pts) (ordr pts) tr A := by
  rcases spr hp nd (by omega) hn with ⟨h, _, row⟩ | ⟨tr, A, h, _, hA, hJ, nrow⟩
  · refine .inl ⟨?_, row⟩
    unfold m_near mb_near
    rw [bind_s, h, bind2_s, mend0]
    rfl
  · have num := hJ.num
    rw [ordr_len] at num
    have H : Net (ptAt pts) (rngL (pts.length : Int)) (tld tr) := ((hJ.net hA fun x hx y hy e => ptAt_inj nd (ordr_mem.mp hx).1 (ordr_mem.mp hx).2 (ordr_mem.mp hy).1 (ordr_mem.mp hy).2 e).congrS ordr_rng).tld
    have tl := tld_len tr
    obtain ⟨sw, M, e, _, HM, lM, no⟩ := mend hp (by omega) H (by omega)
    refine .inr ⟨M, tr, A, ?_, ⟨HM, loc_of (bd_rng hp (by omega)) HM no⟩, nrow, by omega, by omega, hA, hJ⟩
    unfold m_near mb_near
    rw [bind_s, h, bind2_s, e]
    rfl
theorem nea {pts : List Pt} (hp : ∀ p ∈ pts, pb p) (nd : pts.Nodup) (hl : pts.length ≤ 11) (hn : pts ≠ []) :
    (m_near pts = some [] ∧ RowP pts) ∨ ∃ M, m_near pts = some (tld M) ∧ Nr (ptAt pts) (rngL (pts.length : Int)) M ∧ ¬ RowP pts ∧ M.length ≤ 21 := by
  rcases neah hp nd hl hn with h | ⟨M, _, _, h1, h2, h3, h4, _⟩
  · exact .inl h
  · exact .inr ⟨M, h1, h2, h3, h4⟩
theorem stps_rotm : ∀ N : List Tri, (stps (N.map rot)).Perm (stps N)
  | [] => .refl _
  | t :: r => by
    rw [List.map_cons, stps_cons, stps_cons]
    exact (stp_rot t).append (stps_rotm r)
def trnd (j : Nat) (N : List Tri) : List Tri := (N.drop j).map rot ++ N.take j
theorem trnd_net {p : Int → Pt} {S : List Int} {N : List Tri} (H : Net p S N) (j : Nat) : Net p S (trnd j N) := by
  refine H.of_perm ?_ fun t ht => ?_
  · unfold trnd
    rw [stps_app]
    refine ((stps_rotm _).append_right _).trans ?_
    rw [← stps_app]
    refine stps_perm ?_
    have := List.perm_append_comm (l₁ := N.drop j) (l₂ := N.take j)
    rwa [List.take_append_drop] at this
  · rcases List.mem_append.mp ht with h | h
    · obtain ⟨u, hu, rfl⟩ := List.mem_map.mp h
      have := H.pos u (List.mem_of_mem_drop hu)
      show 0 < area (p u.b) (p u.c) (p u.a)
      rwa [area_rot]
    · exact H.pos t (List.mem_of_mem_take h)
theorem trnd_len (j : Nat) (N : List Tri) : (trnd j N).length = N.length := by unfold trnd; rw [List.length_append, List.length_map, List.length_drop, List.length_take]; omega
theorem trnd_tld {p : Int → Pt} {S : List Int} {N : List Tri} (H : Net p S N) (j : Nat) : tld (trnd j N) = tld N := by
  refine srtT_eq ?_
  have e : (trnd j N).map rol = (N.drop j ++ N.take j).map rol := by
    unfold trnd
    rw [List.map_append, List.map_append, List.map_map]
    congr 1
    exact List.map_congr_left fun t ht => rol_of_rot (H.dst (List.mem_of_mem_drop ht))
  rw [e]
  refine List.Perm.map _ ?_
  have := List.perm_append_comm (l₁ := N.drop j) (l₂ := N.take j)
  rwa [List.take_append_drop] at this
theorem flp_tld {p : Int → Pt} {S : List Int} {N : List Tri} {a b c d : Int} (H : Net p S N) (h1 : Tr N a b c) (h2 : Tr N b a d) (k1 : 0 < area (p a) (p d) (p c)) (k2 : 0 < area (p d) (p b) (p c)) : tld (flp (tld N) a b c d) = tld (flp N a b c d) :=
  net_eq (H.tld.flp (Tr_tld.mpr h1) (Tr_tld.mpr h2) k1 k2) (H.flp h1 h2 k1 k2) fun x y z => by rw [flp_Tr, flp_Tr, Tr_tld]
theorem WS_tld {p : Int → Pt} {h : Int → Int} {N : List Tri} {e : Int × Int} : WS p h (tld N) e ↔ WS p h N e := by
  unfold WS
  refine and_congr_right fun _ => ?_
  constructor
  · rintro ⟨c, d, t1, t2, L⟩
    exact ⟨c, d, Tr_tld.mp t1, Tr_tld.mp t2, L⟩
  · rintro ⟨c, d, t1, t2, L⟩
    exact ⟨c, d, Tr_tld.mpr t1, Tr_tld.mpr t2, L⟩
theorem ndn {pts : List Pt} {s : Int} (h0 : 0 ≤ s) (h1 : s < pts.length) : m_need_number pts s = some () := by
  have c : ochn (some (0 : Int)) (some s) (olen (some pts)) = some true := by
    show (if 0 ≤ s then Option.bind (some (pts.length : Int)) fun k => some (decide (s < k)) else some false) = _
    rw [if_pos h0, bind_s, decide_eq_true h1]
  unfold m_need_number mb_need_number
  rw [c]
  rfl
theorem tix {t : Tri} {s : Int} (k : Nat) (h : ([t.a, t.b, t.c] : List Int).idxOf s = k) (hm : s ∈ ([t.a, t.b, t.c] : List Int)) : oindx (otl (some t)) (some s) = some (k : Int) := by
  show (if s ∈ ([t.a, t.b, t.c] : List Int) then some ((([t.a, t.b, t.c] : List Int).idxOf s : Nat) : Int) else none) = _
  rw [if_pos hm, h]
theorem lto {p : Int → Pt} {S : List Int} {N : List Tri} (H : Net p S N) (hN : N.length ≤ 1000) (s : Int) : m_later_of N s = some (Du.mk (lat s N)) := by
  unfold m_later_of mb_later_of
  rw [bind_s]
  obtain ⟨h1, _⟩ := loop_fold (f := fun (x2 : Tri) (g1 : ((List (Int × Int)))) => (thenO (oite (oin (some s) (otl (some x2))) (Option.bind (oindx (otl (some x2)) (some s)) fun (v_at : Int) => (Option.bind (odput (MD.mk (κ := Int) (β := Int) g1) (otri (some x2) (osub (some v_at) (some (2 : Int)))) (otri (some x2) (osub (some v_at) (some (1 : Int))))) fun (v_found : List (Int × Int)) => (some (.go (v_found) : Out (Du Int Int) ((List (Int × Int))))))) (some (.go (g1) : Out (Du Int Int) ((List (Int × Int)))))) fun (g3 : ((List (Int × Int)))) => (some (.go (g3) : Out (Du Int Int) ((List (Int × Int)))))))
    (step := fun g t => dps g (les s t)) (Inv := fun i g => g.length ≤ i) N 0 [] (fun j t g hx hg => by
      have hj := (List.getElem?_eq_some_iff.mp hx).1
      have hd := H.dst (List.mem_of_getElem? hx)
      obtain ⟨n1, n2, n3⟩ := hd
      have put : ∀ (k v : Int), odput (MD.mk (κ := Int) (β := Int) g) (some k) (some v) = some (dput g k v) := fun k v => by
        show (if capOk g.length = true then some (dput g k v) else none) = _
        rw [if_pos (show capOk g.length = true from decide_eq_true (by omega))]
      have t0 : otri (some t) (some (0 : Int)) = some t.a := rfl
      have t1 : otri (some t) (some (1 : Int)) = some t.b := rfl
      have tm1 : otri (some t) (some (-1 : Int)) = some t.c := rfl
      have tm2 : otri (some t) (some (-2 : Int)) = some t.b := rfl
      by_cases e1 : t.a = s
      · have o : oin (some s) (otl (some t)) = some true := by
          show some (decide _) = _
          rw [decide_eq_true (by simp [e1])]
        have ix := tix (t := t) (s := s) 0 (by simp [List.idxOf_cons, e1]) (by simp [e1])
        have le : les s t = [(t.b, t.c)] := by unfold les; rw [if_pos e1]
        rw [o, oite_s, if_pos rfl, ix, bind_s, osub_s, osub_s, le]
        show thenO (Option.bind (odput (MD.mk (κ := Int) (β := Int) g) (otri (some t) (some (-2 : Int))) (otri (some t) (some (-1 : Int)))) _) _ = _ ∧ _
        rw [tm2, tm1, put, bind_s]
        exact ⟨rfl, by have := dput_len g t.b t.c; show (dput g t.b t.c).length ≤ _; omega⟩
      · by_cases e2 : t.b = s
        · have o : oin (some s) (otl (some t)) = some true := by
            show some (decide _) = _
            rw [decide_eq_true (by simp [e2])]
          have b1 : (t.a == s) = false := by simp [e1]
          have ix := tix (t := t) (s := s) 1 (by simp [List.idxOf_cons, b1, e2]) (by simp [e2])
          have le : les s t = [(t.c, t.a)] := by unfold les; rw [if_neg e1, if_pos e2]
          rw [o, oite_s, if_pos rfl, ix, bind_s, osub_s, osub_s, le]
          show thenO (Option.bind (odput (MD.mk (κ := Int) (β := Int) g) (otri (some t) (some (-1 : Int))) (otri (some t) (some (0 : Int)))) _) _ = _ ∧ _
          rw [tm1, t0, put, bind_s]
          exact ⟨rfl, by have := dput_len g t.c t.a; show (dput g t.c t.a).length ≤ _; omega⟩
        · by_cases e3 : t.c = s
          · have o : oin (some s) (otl (some t)) = some true := by
              show some (decide _) = _
              rw [decide_eq_true (by simp [e3])]
            have b1 : (t.a == s) = false := by simp [e1]
            have b2 : (t.b == s) = false := by simp [e2]
            have ix := tix (t := t) (s := s) 2 (by simp [List.idxOf_cons, b1, b2, e3]) (by simp [e3])
            have le : les s t = [(t.a, t.b)] := by unfold les; rw [if_neg e1, if_neg e2, if_pos e3]
            rw [o, oite_s, if_pos rfl, ix, bind_s, osub_s, osub_s, le]
            show thenO (Option.bind (odput (MD.mk (κ := Int) (β := Int) g) (otri (some t) (some (0 : Int))) (otri (some t) (some (1 : Int)))) _) _ = _ ∧ _
            rw [t0, t1, put, bind_s]
            exact ⟨rfl, by have := dput_len g t.a t.b; show (dput g t.a t.b).length ≤ _; omega⟩
          · have o : oin (some s) (otl (some t)) = some false := by
              show some (decide _) = _
              rw [decide_eq_false]
              simp only [List.mem_cons, List.not_mem_nil, or_false, not_or]
              exact ⟨fun z => e1 z.symm, fun z => e2 z.symm, fun z => e3 z.symm⟩
            have le : les s t = [] := by unfold les; rw [if_neg e1, if_neg e2, if_neg e3]
            rw [o, oite_s, if_neg (by decide), le]
            exact ⟨rfl, by show g.length ≤ _; omega⟩) (Nat.le_refl _)
  rw [h1]
  have go : ∀ (N : List Tri) (g : List (Int × Int)), N.foldl (fun g t => dps g (les s t)) g = dps g (lat s N) := by
    intro N
    induction N with
    | nil => intro g; rfl
    | cons t r ih =>
      intro g
      rw [List.foldl_cons, ih]
      show _ = dps g (les s t ++ lat s r)
      unfold dps
      rw [List.foldl_append]
  show some (Du.mk (N.foldl (fun g t => dps g (les s t)) [])) = _
  rw [go, dps_nd (lat_nd H)]
theorem min_same {k l : List Int} {a b : Int} (h : ∀ x, x ∈ a :: k ↔ x ∈ b :: l) : k.foldl (fun a y => if y < a then y else a) a = l.foldl (fun a y => if y < a then y else a) b := by
  obtain ⟨f1, f2⟩ := foldmin k a
  obtain ⟨g1, g2⟩ := foldmin l b
  have := f2 _ ((h _).mpr g1)
  have := g2 _ ((h _).mp f1)
  omega
def lat2 (s : Int) (N : List Tri) : List (Int × Int) := ((stps N).filter fun e => decide (e.1 = s)).map fun e => (e.2, (dget (ents N) e).getD 0)
theorem LM2 {p : Int → Pt} {S : List Int} {N : List Tri} (H : Net p S N) (s : Int) : LM (lat2 s N) N s := by
  have nd : ((lat2 s N).map (·.1)).Nodup := by
    have := lat_nd (s := s) H
    rw [lat_keys fun t ht => H.dst ht] at this
    unfold lat2
    rw [List.map_map]
    exact this
  have M := DM.ents H
  have mem : ∀ x y, (x, y) ∈ lat2 s N ↔ Tr N s x y := fun x y => by
    unfold lat2
    rw [List.mem_map]
    constructor
    · rintro ⟨e, he, q⟩
      obtain ⟨h1, h2⟩ := List.mem_filter.mp he
      have h2 := of_decide_eq_true h2
      obtain ⟨c, hc⟩ := Tr.of_step (a := e.1) (b := e.2) h1
      have g : dget (ents N) e = some c := (M.2 e.1 e.2 c).mpr hc
      rw [g] at q
      cases q
      rw [← h2]
      exact hc
    · intro t
      refine ⟨(s, x), List.mem_filter.mpr ⟨t.stp.1, decide_eq_true rfl⟩, ?_⟩
      have g : dget (ents N) (s, x) = some y := (M.2 s x y).mpr t
      rw [g]
      rfl
  exact ⟨nd, fun x y => ⟨fun h => (mem x y).mp (dget_some h), fun h => dget_mem nd ((mem x y).mpr h)⟩⟩
theorem _root_.T.LM.same {d d2 : List (Int × Int)} {N : List Tri} {s : Int} (h : LM d N s) (k : LM d2 N s) (x : Int) : dget d x = dget d2 x := by
  cases q : dget d x with
  | some y => exact ((k.2 x y).mpr ((h.2 x y).mp q)).symm
  | none =>
    cases r : dget d2 x with
    | none => rfl
    | some y =>
      rw [(h.2 x y).mpr ((k.2 x y).mp r)] at q
      cases q
theorem _root_.T.LM.key {d : List (Int × Int)} {N : List Tri} {s x : Int} (h : LM d N s) : x ∈ d.map (·.1) ↔ (s, x) ∈ stps N := by
  have k := dget_key (l := d) (k := x)
  constructor
  · intro hx
    rw [decide_eq_true hx] at k
    obtain ⟨y, hy⟩ := Option.isSome_iff_exists.mp k
    exact ((h.2 x y).mp hy).stp.1
  · intro hx
    obtain ⟨y, hy⟩ := Tr.of_step hx
    rw [(h.2 x y).mpr hy] at k
    exact of_decide_eq_true k.symm
theorem _root_.T.LM.val {d : List (Int × Int)} {N : List Tri} {s x : Int} (h : LM d N s) : x ∈ d.map (·.2) ↔ (x, s) ∈ stps N := by
  constructor
  · intro hx
    obtain ⟨e, he, rfl⟩ := List.mem_map.mp hx
    exact ((h.2 e.1 e.2).mp (dget_mem h.1 he)).stp.2.2
  · intro hx
    obtain ⟨w, hw⟩ := Tr.of_step hx
    exact List.mem_map.mpr ⟨(w, x), dget_some ((h.2 w x).mpr hw.rot), rfl⟩
theorem last_idx {g : List Int} {l : Int} (h : g.getLast? = some l) : oidx (some g) (oneg (some (1 : Int))) = some l := by
  rw [oneg_s, idx_last (fun z => by rw [z] at h; cases h), h]
theorem trn {pts : List Pt} {N : List Tri} (H : Net (ptAt pts) (rngL (pts.length : Int)) N) (hN : N.length ≤ 100) (hl : pts.length ≤ 1000) {s : Int} (hs : s ∈ rngL (pts.length : Int)) :
    ∃ R, m_in_turn (Dc.mk (lat s N)) = some R ∧ (∀ x ∈ R, x ∈ rngL (pts.length : Int)) ∧ R.length ≤ pts.length ∧ (∀ x ∈ R, (s, x) ∈ stps N ∨ (x, s) ∈ stps N) ∧ ∀ e ∈ rngL (pts.length : Int), ∃ t u, t ∈ R ∧ u ∈ R ∧ Tr N s t u ∧ 0 ≤ area (ptAt pts s) (ptAt pts t) (ptAt pts e) ∧ 0 ≤ area (ptAt pts u) (ptAt pts s) (ptAt pts e) := by
  have L1 := LM.lat (s := s) H
  have L2 := LM2 H s
  have ne : N ≠ [] := fun z => by
    obtain ⟨e, he, _⟩ := H.all s hs
    rw [z] at he
    cases he
  obtain ⟨e0, he0, es0⟩ := H.all s hs
  have k1 : e0.2 ∈ (lat s N).map (·.1) := L1.key.mpr (by rw [← es0]; exact he0)
  have k2 : e0.2 ∈ (lat2 s N).map (·.1) := L2.key.mpr (by rw [← es0]; exact he0)
  obtain ⟨a, ks, ea⟩ : ∃ a ks, (lat s N).map (·.1) = a :: ks := by
    cases q : (lat s N).map (·.1) with
    | nil => rw [q] at k1; cases k1
    | cons a ks => exact ⟨a, ks, rfl⟩
  obtain ⟨b, js, eb⟩ : ∃ b js, (lat2 s N).map (·.1) = b :: js := by
    cases q : (lat2 s N).map (·.1) with
    | nil => rw [q] at k2; cases k2
    | cons b js => exact ⟨b, js, rfl⟩
  have sm := min_same (k := ks) (l := js) (a := a) (b := b) fun x => by rw [← ea, ← eb, L1.key, L2.key]
  have mk1 : ominK (some (Dc.mk (κ := Int) (β := Int) (lat s N))) = some (ks.foldl (fun a y => if y < a then y else a) a) := by
    show (match (lat s N).map (·.1) with | [] => none | k :: ks => some (ks.foldl (fun a y => if y < a then y else a) k)) = _
    rw [ea]
  have mk2 : ominK (some (Dc.mk (κ := Int) (β := Int) (lat2 s N))) = some (ks.foldl (fun a y => if y < a then y else a) a) := by
    rw [sm]
    show (match (lat2 s N).map (·.1) with | [] => none | k :: ks => some (ks.foldl (fun a y => if y < a then y else a) k)) = _
    rw [eb]
  have mK : (s, ks.foldl (fun a y => if y < a then y else a) a) ∈ stps N := by
    have := (foldmin ks a).1
    rw [← ea] at this
    exact L1.key.mp this
  have mS : ks.foldl (fun a y => if y < a then y else a) a ∈ rngL (pts.length : Int) := by
    have := (foldmin ks a).1
    rw [← ea] at this
    exact H.in2 (L1.key.mp this)
  generalize ks.foldl (fun a y => if y < a then y else a) a = m at *
  have stl := stps_len N
  have kl1 : ((lat s N).map (·.1)).length ≤ 1000 := by
    rw [lat_keys fun t ht => H.dst ht, List.length_map]
    exact Nat.le_trans (List.length_filter_le _ _) (by omega)
  -- the start
  obtain ⟨b0, hb0, bk, bn, st1⟩ : ∃ b0, b0 ∈ rngL (pts.length : Int) ∧ (s, b0) ∈ stps N ∧ ((b0, s) ∉ stps N ∨ ∀ c, (s, c) ∈ stps N → (c, s) ∈ stps N) ∧ (if ((lat s N).map (·.1)).filter (fun x => !decide (x ∈ (lat s N).map (·.2))) = [] then [m] else ((lat s N).map (·.1)).filter (fun x => !decide (x ∈ (lat s N).map (·.2)))) = [b0] := by
    have isB : ∀ x, x ∈ ((lat s N).map (·.1)).filter (fun x => !decide (x ∈ (lat s N).map (·.2))) ↔ (s, x) ∈ stps N ∧ (x, s) ∉ stps N := fun x => by
      rw [List.mem_filter, Bool.not_eq_true', decide_eq_false_iff_not, L1.key, L1.val]
    by_cases q : ∃ c, (s, c) ∈ stps N ∧ (c, s) ∉ stps N
    · obtain ⟨c, c1, c2⟩ := q
      have only : ∀ x, (s, x) ∈ stps N → (x, s) ∉ stps N → x = c := fun x x1 x2 => one_out H x1 x2 c1 c2
      refine ⟨c, H.in2 c1, c1, .inl c2, ?_⟩
      have nd := L1.1.filter (fun x => !decide (x ∈ (lat s N).map (·.2)))
      have mc := (isB c).mpr ⟨c1, c2⟩
      have allc : ∀ x ∈ ((lat s N).map (·.1)).filter (fun x => !decide (x ∈ (lat s N).map (·.2))), x = c := fun x hx => only x ((isB x).mp hx).1 ((isB x).mp hx).2
      generalize ((lat s N).map (·.1)).filter (fun x => !decide (x ∈ (lat s N).map (·.2))) = Bg at *
      match Bg, nd, mc, allc with
      | [x], _, _, al => rw [if_neg (by simp), al x (by simp)]
      | x :: y :: r, nd, _, al => exact absurd ((al x (by simp)).trans (al y (by simp)).symm) fun z => (List.nodup_cons.mp nd).1 (by rw [z]; simp)
    · refine ⟨m, mS, mK, .inr fun c h => Classical.byContradiction fun z => q ⟨c, h, z⟩, ?_⟩
      have : ((lat s N).map (·.1)).filter (fun x => !decide (x ∈ (lat s N).map (·.2))) = [] := List.eq_nil_iff_forall_not_mem.mpr fun x hx => q ⟨x, (isB x).mp hx⟩
      rw [if_pos this]
  have sl : (rngL (pts.length : Int)).length ≤ 1000 := by rw [rngL_lenN]; omega
  have app : ∀ (g : List Int) (y : Int), g.length ≤ 1000 → oapp g (some y) = some (g ++ [y]) := fun g y h => oapp_s (by omega)
  obtain ⟨R, r1, _, r3, r4, r5, ch, hd, l, hl, en⟩ := chain_loops (S := rngL (pts.length : Int)) (F := dget (lat s N))
    (fun x y z h1 h2 => H.top1 ((L1.2 _ _).mp h1).rot.rot ((L1.2 _ _).mp h2).rot.rot) (fun x y h => (((L1.2 _ _).mp h).inS H).2.2)
    (c1 := fun (g4 : ((List Int))) => (oand (odin (oidx (some g4) (oneg (some (1 : Int)))) (some (Dc.mk (lat s N)))) (one_ (odget (some (Dc.mk (lat s N))) (oidx (some g4) (oneg (some (1 : Int))))) (oidx (some g4) (some (0 : Int))))))
    (f1 := fun (g4 : ((List Int))) => (Option.bind (oapp g4 (odget (some (Dc.mk (lat s N))) (oidx (some g4) (oneg (some (1 : Int)))))) fun (v_found : List Int) => (some (.go (v_found) : Out (List Int) ((List Int))))))
    (c2 := fun g => match g.getLast? with
      | none => none
      | some l => some (match dget (lat s N) l with | none => false | some y => !decide (y ∈ g)))
    (f2 := fun (g4 : ((List Int))) => (Option.bind (oapp g4 (odget (some (Dc.mk (lat s N))) (oidx (some g4) (oneg (some (1 : Int)))))) fun (v_found : List Int) => (some (.go (v_found) : Out (List Int) ((List Int))))))
    (fun g l h hl hh => by
      have o0 : oidx (some g) (some (0 : Int)) = some h := by rw [idx_i (by decide), show (0 : Int).toNat = 0 from rfl, ← List.head?_eq_getElem?, hh]
      rw [last_idx hl, o0]
      show oand (some (dget (lat s N) l).isSome) (one_ (dget (lat s N) l) (some h)) = _
      cases dget (lat s N) l with
      | none => rfl
      | some y => rfl)
    (fun g l hl => by first | (rw [hl]; done) | (rw [hl]; rfl))
    (fun g l y hg hl hy => by
      rw [last_idx hl]
      show Option.bind (oapp g (dget (lat s N) l)) _ = _
      rw [hy, app g y hg]
      rfl)
    (fun g l y hg hl hy => by
      rw [last_idx hl]
      show Option.bind (oapp g (dget (lat s N) l)) _ = _
      rw [hy, app g y hg]
      rfl) sl (pts.length) [b0] (by simp) (by simp) (fun x hx => by rw [List.mem_singleton.mp hx]; exact hb0) (fun i x y _ hy => by simp at hy) (by have := rngL_lenN pts.length; simp only [List.length_singleton]; omega)
  have rl := nodup_lenT r3 r4
  rw [rngL_lenN] at rl
  have gp := List.length_pos_iff.mpr r5
  have r0 : R[0]? = some b0 := by rw [← List.head?_eq_getElem?, hd]; rfl
  have rl0 : R[R.length - 1]? = some l := by rw [← hl, List.getLast?_eq_getElem?]
  have chT : ∀ (i : Nat) x y, R[i]? = some x → R[i + 1]? = some y → Tr N s x y := fun i x y h1 h2 => (L1.2 _ _).mp (ch i x y h1 h2)
  have nb : ∀ x ∈ R, (s, x) ∈ stps N ∨ (x, s) ∈ stps N := fun x hx => by
    obtain ⟨i, hi, ei⟩ := List.mem_iff_getElem.mp hx
    cases i with
    | zero =>
      rw [List.getElem?_eq_getElem hi, ei] at r0
      cases r0
      exact .inl bk
    | succ i => exact .inr (chT i _ x (List.getElem?_eq_getElem (by omega)) (by rw [List.getElem?_eq_getElem hi, ei])).stp.2.2
  refine ⟨R, ?_, r4, rl, nb, fun e he => star H chT (by rw [hd]; rfl) hl (Tr.of_step bk) ?_ he⟩
  rotate_left
  · rcases en with en | en
    · have nk : ∀ y, ¬ Tr N s l y := fun y hy => by
        rw [(L1.2 _ _).mpr hy] at en
        cases en
      refine .inl ⟨nk, bk, ?_⟩
      rcases bn with bn | bn
      · exact bn
      · exfalso
        have nl : (s, l) ∉ stps N := fun z => by
          obtain ⟨y, hy⟩ := Tr.of_step z
          exact nk y hy
        rcases nb l (List.mem_of_getElem? rl0) with z | z
        · exact nl z
        · obtain ⟨w, hw⟩ := bnd_next H.nd (u := l) (v := s) ⟨z, nl⟩
          exact hw.2 (bn w hw.1)
    · refine .inr ((L1.2 _ _).mp ?_)
      rw [en, hd]
      rfl
  · unfold m_in_turn mb_in_turn
    rw [show ovals (some (Dc.mk (lat s N))) = some ((lat s N).map (·.2)) from rfl, bind_s, show okeys (some (Dc.mk (lat s N))) = some ((lat s N).map (·.1)) from rfl, bind_s, if_pos (show capOk ((lat s N).map (·.1)).length = true from decide_eq_true (by omega)),
      lcM_filter (fun x : Int => !decide (x ∈ (lat s N).map (·.2))) (fun x => x) (fun (x1 : Int) => (onin (some x1) (some ((lat s N).map (·.2))))) (fun (x1 : Int) => (some x1)) _ (fun x _ => by rw [onin_s]) (fun x _ _ => rfl), List.map_id', bind_s, mk1, ocons_s, bind_s]
    have e : oite (one_ (some (((lat s N).map (·.1)).filter (fun x => !decide (x ∈ (lat s N).map (·.2))))) (some ([] : List Int))) (some (.go (((lat s N).map (·.1)).filter (fun x => !decide (x ∈ (lat s N).map (·.2)))) : Out (List Int) ((List Int)))) (some (.go ([m]) : Out (List Int) ((List Int)))) = some (.go [b0]) := by
      rw [← st1, one_s, oite_s]
      by_cases q : ((lat s N).map (·.1)).filter (fun x => !decide (x ∈ (lat s N).map (·.2))) = []
      · rw [if_neg (by simp [q]), if_pos q]
      · rw [if_pos (by simp [q]), if_neg q]
    rw [e, thenO_go, loopW_some.mpr ⟨_, r1⟩]
    rfl
theorem lfr {a b : Pt} (ha : pb a) (hb : pb b) : m__law_far a b = some (far a b) := by
  unfold m__law_far mb__law_far
  simp only [ofst_s, osnd_s, osub_s, bind_s, omul_b (bd_sub' ha.1 hb.1) (bd_sub' ha.1 hb.1), omul_b (bd_sub' ha.2 hb.2) (bd_sub' ha.2 hb.2), oadd_s, oret_s, retv_ret]
  rfl
theorem cutL_map {α β : Type} (f : α → β) (l : List α) (lo hi : Option Int) : cutL (l.map f) lo hi = (cutL l lo hi).map f := by
  unfold cutL
  rw [List.length_map, List.map_take, List.map_drop]
theorem cutL_mem {α : Type} {l : List α} {lo hi : Option Int} {x : α} (h : x ∈ cutL l lo hi) : x ∈ l := List.mem_of_mem_drop (List.mem_of_mem_take h)
theorem cutL_len {α : Type} (l : List α) (lo hi : Option Int) : (cutL l lo hi).length ≤ l.length := by
  unfold cutL
  rw [List.length_take, List.length_drop]
  omega
theorem bse {pts : List Pt} (nd : pts.Nodup) (hn : pts ≠ []) (hl : pts.length ≤ 40) (hs : m_swept pts = some ([], ordr pts)) {s : Int} (h : s ∈ rngL (pts.length : Int)) :
    ∃ R, m_beside pts s = some R ∧ (∀ x ∈ R, x ∈ rngL (pts.length : Int)) ∧ R.length ≤ 200 ∧ ∃ k, (ordr pts)[k]? = some s ∧ (∀ t, 1 ≤ k → (ordr pts)[k - 1]? = some t → t ∈ R) ∧ ∀ t, (ordr pts)[k + 1]? = some t → t ∈ R := by
  have ol := ordr_len pts
  have hs2 := mem_rngL.mp h
  have hh : m_hull pts = some (ordr pts) := by
    obtain ⟨o, R, ho⟩ : ∃ o R, ordr pts = o :: R := by
      cases h : ordr pts with
      | nil => rw [h] at ol; exact absurd (List.length_eq_zero_iff.mp ol.symm) hn
      | cons o R => exact ⟨o, R, rfl⟩
    have := hll (A := []) (B := R) (t := []) (by rw [hs, ho]; rfl) ho (by rw [List.nil_append, ← ho]; exact ordr_nodup pts) (by rw [List.nil_append, ← ho]; omega) (by omega)
    rw [this, ho, List.append_nil]
  obtain ⟨k, hk, ek⟩ := List.mem_iff_getElem.mp ((ordr_rng s).mpr h)
  have ix : oindx (some (ordr pts)) (some s) = some (k : Int) := oindx_at (ordr_nodup pts) (by rw [List.getElem?_eq_getElem hk, ek])
  obtain ⟨mx, hmx⟩ : ∃ mx, omax2 (some (0 : Int)) (osub (some (k : Int)) (some (1 : Int))) = some mx := ⟨_, rfl⟩
  have c1 := cutL_len (ordr pts) (some mx) (some (k : Int))
  have c2 := cutL_len (ordr pts) (some ((k : Int) + 1)) (some ((k : Int) + 2))
  have sub : ∀ x ∈ cutL (ordr pts) (some mx) (some (k : Int)) ++ cutL (ordr pts) (some ((k : Int) + 1)) (some ((k : Int) + 2)), 0 ≤ x ∧ x < pts.length := fun x hx => by
    rcases List.mem_append.mp hx with hx | hx
    · exact ordr_mem.mp (cutL_mem hx)
    · exact ordr_mem.mp (cutL_mem hx)
  refine ⟨(cutL (ordr pts) (some mx) (some (k : Int)) ++ cutL (ordr pts) (some ((k : Int) + 1)) (some ((k : Int) + 2))).mergeSort fun x y => !Ordd.lt y x, ?_, fun x hx => mem_rngL.mpr (sub x ((List.mergeSort_perm _ _).mem_iff.mp hx)), by rw [List.length_mergeSort, List.length_append]; omega, k, by rw [List.getElem?_eq_getElem hk, ek], fun t k1 ht => (List.mergeSort_perm _ _).mem_iff.mpr (List.mem_append.mpr (.inl ?_)), fun t ht => (List.mergeSort_perm _ _).mem_iff.mpr (List.mem_append.mpr (.inr ?_))⟩
  rotate_left
  · have emx : mx = ((k - 1 : Nat) : Int) := by
      have : omax2 (some (0 : Int)) (osub (some (k : Int)) (some (1 : Int))) = some (if (0 : Int) < (k : Int) - 1 then (k : Int) - 1 else 0) := rfl
      rw [this] at hmx
      have := Option.some.inj hmx
      rw [← this]
      split <;> omega
    rw [emx]
    have tl := (List.getElem?_eq_some_iff.mp ht).1
    unfold cutL
    rw [HT.sIx_nat, HT.sIx_nat]
    refine List.mem_of_getElem? (i := 0) ?_
    rw [List.getElem?_take, if_pos (by omega), List.getElem?_drop, show min (k - 1) (ordr pts).length + 0 = k - 1 by omega]
    exact ht
  · have tl := (List.getElem?_eq_some_iff.mp ht).1
    rw [show ((k : Int) + 1) = ((k + 1 : Nat) : Int) by omega, show ((k : Int) + 2) = ((k + 2 : Nat) : Int) by omega]
    unfold cutL
    rw [HT.sIx_nat, HT.sIx_nat]
    refine List.mem_of_getElem? (i := 0) ?_
    rw [List.getElem?_take, if_pos (by omega), List.getElem?_drop, show min (k + 1) (ordr pts).length + 0 = k + 1 by omega]
    exact ht
  · unfold m_beside mb_beside
    rw [bind_s, hh, bind_s, ix, bind_s, hmx, oadd_s, oadd_s]
    show retv (oret (osort (ocat (some (cutL (ordr pts) (some mx) (some (k : Int)))) (some (cutL (ordr pts) (some ((k : Int) + 1)) (some ((k : Int) + 2))))))) = _
    rw [ocat_s (by omega)]
    rfl
theorem row_all {pts : List Pt} (nd : pts.Nodup) (row : RowP pts) {s : Int} {k : Nat} (hk : (ordr pts)[k]? = some s) {R : List Int} (p1 : ∀ t, 1 ≤ k → (ordr pts)[k - 1]? = some t → t ∈ R) (p2 : ∀ t, (ordr pts)[k + 1]? = some t → t ∈ R) {q : Pt} (h : ∀ x ∈ R, far (ptAt pts s) q ≤ far (ptAt pts x) q) : ∀ e ∈ rngL (pts.length : Int), far (ptAt pts s) q ≤ far (ptAt pts e) q := fun e he => by
  have up := ordr_up nd
  have lt : ∀ (i j : Nat) x y, i < j → (ordr pts)[i]? = some x → (ordr pts)[j]? = some y → lx (ptAt pts x) (ptAt pts y) := fun i j x y hij hx hy => by
    obtain ⟨h1, e1⟩ := List.getElem?_eq_some_iff.mp hx
    obtain ⟨h2, e2⟩ := List.getElem?_eq_some_iff.mp hy
    have := List.pairwise_iff_getElem.mp up i j h1 h2 hij
    rwa [e1, e2] at this
  have inP : ∀ (i : Nat) x, (ordr pts)[i]? = some x → ptAt pts x ∈ pts := fun i x hx => by
    have := ordr_mem.mp (List.mem_of_getElem? hx)
    exact ptAt_mem this.1 this.2
  obtain ⟨i, hi, ei⟩ := List.mem_iff_getElem.mp ((ordr_rng e).mpr he)
  have hi' : (ordr pts)[i]? = some e := by rw [List.getElem?_eq_getElem hi, ei]
  have hkl := (List.getElem?_eq_some_iff.mp hk).1
  rcases Nat.lt_trichotomy i k with w | w | w
  · have ht : (ordr pts)[k - 1]? = some ((ordr pts)[k - 1]'(by omega)) := List.getElem?_eq_getElem _
    have f := h _ (p1 _ (by omega) ht)
    by_cases z : i = k - 1
    · rw [z, ht] at hi'
      have e2 := Option.some.inj hi'
      rw [← e2]
      exact f
    · exact between (lt i (k - 1) _ _ (by omega) hi' ht) (lt (k - 1) k _ _ (by omega) ht hk) (row _ (inP _ _ hi') _ (inP _ _ ht) _ (inP _ _ hk)) f
  · rw [w, hk] at hi'
    cases hi'
    exact Int.le_refl _
  · have ht : (ordr pts)[k + 1]? = some ((ordr pts)[k + 1]'(by omega)) := List.getElem?_eq_getElem _
    have f := h _ (p2 _ ht)
    by_cases z : i = k + 1
    · rw [z, ht] at hi'
      have e2 := Option.some.inj hi'
      rw [← e2]
      exact f
    · have l1 := lt (k + 1) i _ _ (by omega) ht hi'
      have l2 := lt k (k + 1) _ _ (by omega) hk ht
      have a0 := row _ (inP _ _ hi') _ (inP _ _ ht) _ (inP _ _ hk)
      have ngf : ∀ a b : Pt, far (-a.1, -a.2) (-b.1, -b.2) = far a b := fun a b => by unfold far; dsimp only; grind
      have ngl : ∀ a b : Pt, lx a b → lx (-b.1, -b.2) (-a.1, -a.2) := fun a b h => by unfold lx at *; dsimp only; omega
      have nga : ∀ a b c : Pt, area (-a.1, -a.2) (-b.1, -b.2) (-c.1, -c.2) = area a b c := fun a b c => by unfold area; dsimp only; grind
      have := between (q := (-q.1, -q.2)) (ngl _ _ l1) (ngl _ _ l2) (by rw [nga]; exact a0) (by rw [ngf, ngf]; exact f)
      rwa [ngf, ngf] at this
theorem rdn {pts : List Pt} (hp : ∀ p ∈ pts, pb p) (nd : pts.Nodup) (hn : pts ≠ []) (hl : pts.length ≤ 40) {N : List Tri} (hN : N.length ≤ 100) (H : (N = [] ∧ m_swept pts = some ([], ordr pts) ∧ RowP pts) ∨ Nr (ptAt pts) (rngL (pts.length : Int)) N) :
    ∃ rd : Int → List Int, ∀ s ∈ rngL (pts.length : Int), m_around pts N s = some (rd s) ∧ (∀ x ∈ rd s, x ∈ rngL (pts.length : Int)) ∧ (rd s).length ≤ 1000 ∧ ∀ q, (∀ x ∈ rd s, far (ptAt pts s) q ≤ far (ptAt pts x) q) → ∀ e ∈ rngL (pts.length : Int), far (ptAt pts s) q ≤ far (ptAt pts e) q := by
  have key : ∀ s, s ∈ rngL (pts.length : Int) → ∃ R, m_around pts N s = some R ∧ (∀ x ∈ R, x ∈ rngL (pts.length : Int)) ∧ R.length ≤ 1000 ∧ ∀ q, (∀ x ∈ R, far (ptAt pts s) q ≤ far (ptAt pts x) q) → ∀ e ∈ rngL (pts.length : Int), far (ptAt pts s) q ≤ far (ptAt pts e) q := fun s hs => by
    have hs2 := mem_rngL.mp hs
    rcases H with ⟨rfl, sw, row⟩ | H
    · obtain ⟨R, r1, r3, r4, k, k1, k2, k3⟩ := bse nd hn hl sw hs
      refine ⟨R, ?_, r3, by omega, fun q h => row_all nd row k1 k2 k3 h⟩
      unfold m_around mb_around
      rw [bind2_s, ndn hs2.1 hs2.2, bind_s, oeq_s, decide_eq_true rfl, oite_s, if_pos rfl, bind2_s, r1]
      rfl
    · obtain ⟨R, r1, r3, r4, _, st⟩ := trn H.net hN (by omega) hs
      refine ⟨R, ?_, r3, by omega, fun q h => star_near (bd_rng hp (by omega)) H st h⟩
      have ne : N ≠ [] := H.net.ne (rng_ne hn)
      unfold m_around mb_around
      rw [bind2_s, ndn hs2.1 hs2.2, bind_s, oeq_s, decide_eq_false ne, oite_s, if_neg (by decide), bind2_s, lto H.net (by omega)]
      show retv (oret (Option.bind (some (Dc.mk (lat s N))) m_in_turn)) = _
      rw [bind_s, r1]
      rfl
  exact ⟨fun s => if h : s ∈ rngL (pts.length : Int) then (key s h).choose else [], fun s hs => by
    dsimp only
    rw [dif_pos hs]
    exact (key s hs).choose_spec⟩
theorem wlk3 {pts : List Pt} (hp : ∀ p ∈ pts, pb p) (hl : pts.length ≤ 40) {N : List Tri} {rd : Int → List Int} (hR : ∀ s ∈ rngL (pts.length : Int), m_around pts N s = some (rd s) ∧ (∀ x ∈ rd s, x ∈ rngL (pts.length : Int)) ∧ (rd s).length ≤ 1000 ∧ ∀ q, (∀ x ∈ rd s, far (ptAt pts s) q ≤ far (ptAt pts x) q) → ∀ e ∈ rngL (pts.length : Int), far (ptAt pts s) q ≤ far (ptAt pts e) q)
    {q : Pt} (hq : pb q) {s : Int} (hs : s ∈ rngL (pts.length : Int)) : ∃ R, m_walked pts N s q = some R ∧ (∀ x ∈ R, x ∈ rngL (pts.length : Int)) ∧ R.length ≤ 1000000 ∧ R.head? = some s ∧ (∀ (i : Nat) x y, R[i]? = some x → R[i + 1]? = some y → nxt (fun x => far (ptAt pts x) q) x (rd x) = some y) ∧ ∃ l, R.getLast? = some l ∧ nxt (fun x => far (ptAt pts x) q) l (rd l) = none := by
  have at_ : ∀ {i : Int}, i ∈ rngL (pts.length : Int) → pb (ptAt pts i) := fun h => hp _ (ptAt_mem (mem_rngL.mp h).1 (mem_rngL.mp h).2)
  have ix : ∀ {i : Int}, i ∈ rngL (pts.length : Int) → oidx (some pts) (some i) = some (ptAt pts i) := fun h => ptAt_idx (mem_rngL.mp h).1 (mem_rngL.mp h).2
  have hs2 := mem_rngL.mp hs
  obtain ⟨R, r1, _, r3, r4, r5, r6, r7⟩ := walk_loops (S := rngL (pts.length : Int)) (f := fun x => far (ptAt pts x) q) (nx := fun x => nxt (fun x => far (ptAt pts x) q) x (rd x))
    (fun x y hx h => ⟨(hR x hx).2.1 y (nxt_some h).1, (nxt_some h).2.1⟩)
    (c1 := fun (g1 : ((List Int))) => (some true))
    (f1 := fun (g1 : ((List Int))) => (Option.bind (bind2 (oidx (some pts) (oidx (some g1) (oneg (some (1 : Int))))) (some q) m_far) fun (v_here : Int) => (Option.bind (Option.bind (bind3 (some pts) (some N) (oidx (some g1) (oneg (some (1 : Int)))) m_around) fun xs3 => if capOk xs3.length then lcM oYes (fun (x2 : Int) => (omk2 (bind2 (oidx (some pts) (some x2)) (some q) m_far) (some x2))) xs3 else none) fun (v_some : (List (Int × Int))) => (Option.bind (Option.bind (some v_some) fun xs5 => if capOk xs5.length then lcM (fun (x4 : (Int × Int)) => (olt (ofst (some x4)) (some v_here))) (fun (x4 : (Int × Int)) => (some x4)) xs5 else none) fun (v_some : (List (Int × Int))) => (oite (oeq (some v_some) (some ([] : List (Int × Int)))) (noGo (some (.ret g1))) (Option.bind (oapp g1 (osnd (ominL (some v_some)))) fun (v_found : List Int) => (some (.go (v_found) : Out (List Int) ((List Int))))))))))
    (f2 := fun _ (g1 : ((List Int))) => (Option.bind (bind2 (oidx (some pts) (oidx (some g1) (oneg (some (1 : Int))))) (some q) m_far) fun (v_here : Int) => (Option.bind (Option.bind (bind3 (some pts) (some N) (oidx (some g1) (oneg (some (1 : Int)))) m_around) fun xs3 => if capOk xs3.length then lcM oYes (fun (x2 : Int) => (omk2 (bind2 (oidx (some pts) (some x2)) (some q) m_far) (some x2))) xs3 else none) fun (v_some : (List (Int × Int))) => (Option.bind (Option.bind (some v_some) fun xs5 => if capOk xs5.length then lcM (fun (x4 : (Int × Int)) => (olt (ofst (some x4)) (some v_here))) (fun (x4 : (Int × Int)) => (some x4)) xs5 else none) fun (v_some : (List (Int × Int))) => (oite (oeq (some v_some) (some ([] : List (Int × Int)))) (noGo (some (.ret g1))) (Option.bind (oapp g1 (osnd (ominL (some v_some)))) fun (v_found : List Int) => (some (.go (v_found) : Out (List Int) ((List Int))))))))))
    (fun g => rfl)
    (fun g l hg lS hl' => by
      obtain ⟨a1, a3, a4, _⟩ := hR l lS
      rw [last_idx hl', ix lS, bind2_s, fr (at_ lS) hq, bind_s, bind3_s, a1, bind_s, if_pos (show capOk (rd l).length = true from decide_eq_true (by omega)),
        lcM_map (fun x => (far (ptAt pts x) q, x)) (fun (x2 : Int) => (omk2 (bind2 (oidx (some pts) (some x2)) (some q) m_far) (some x2))) _ (fun x hx => by rw [ix (a3 x hx), bind2_s, fr (at_ (a3 x hx)) hq, omk2_s]), bind_s, bind_s, if_pos (show capOk ((rd l).map fun x => (far (ptAt pts x) q, x)).length = true from decide_eq_true (by rw [List.length_map]; omega)),
        lcM_filter (fun e : Int × Int => decide (e.1 < far (ptAt pts l) q)) (fun x => x) (fun (x4 : (Int × Int)) => (olt (ofst (some x4)) (some (far (ptAt pts l) q)))) (fun (x4 : (Int × Int)) => (some x4)) _ (fun x _ => rfl) (fun x _ _ => rfl), List.map_id', bind_s]
      unfold nxt
      cases e : (((rd l).map fun x => (far (ptAt pts x) q, x)).filter fun e => decide (e.1 < far (ptAt pts l) q)) with
      | nil => rfl
      | cons b bs =>
        rw [oeq_s, oite_s, if_neg (by simp)]
        show Option.bind (oapp g (some (minF b bs).2)) _ = _
        rw [oapp_s (by omega), bind_s])
    (fun _ g l hg lS hl' => by
      obtain ⟨a1, a3, a4, _⟩ := hR l lS
      rw [last_idx hl', ix lS, bind2_s, fr (at_ lS) hq, bind_s, bind3_s, a1, bind_s, if_pos (show capOk (rd l).length = true from decide_eq_true (by omega)),
        lcM_map (fun x => (far (ptAt pts x) q, x)) (fun (x2 : Int) => (omk2 (bind2 (oidx (some pts) (some x2)) (some q) m_far) (some x2))) _ (fun x hx => by rw [ix (a3 x hx), bind2_s, fr (at_ (a3 x hx)) hq, omk2_s]), bind_s, bind_s, if_pos (show capOk ((rd l).map fun x => (far (ptAt pts x) q, x)).length = true from decide_eq_true (by rw [List.length_map]; omega)),
        lcM_filter (fun e : Int × Int => decide (e.1 < far (ptAt pts l) q)) (fun x => x) (fun (x4 : (Int × Int)) => (olt (ofst (some x4)) (some (far (ptAt pts l) q)))) (fun (x4 : (Int × Int)) => (some x4)) _ (fun x _ => rfl) (fun x _ _ => rfl), List.map_id', bind_s]
      unfold nxt
      cases e : (((rd l).map fun x => (far (ptAt pts x) q, x)).filter fun e => decide (e.1 < far (ptAt pts l) q)) with
      | nil => rfl
      | cons b bs =>
        rw [oeq_s, oite_s, if_neg (by simp)]
        show Option.bind (oapp g (some (minF b bs).2)) _ = _
        rw [oapp_s (by omega), bind_s])
    (by rw [rngL_lenN]; omega) (rngL (pts.length : Int)) [s] s (by simp) (by simp) (fun x hx => by rw [List.mem_singleton.mp hx]; exact ⟨hs, Int.le_refl _⟩) (fun i x y _ hy => by simp at hy) (by rw [List.length_singleton]; omega)
  rw [rngL_lenN] at r4
  refine ⟨R, ?_, r3, by omega, r5, r6, r7⟩
  unfold m_walked mb_walked
  rw [bind2_s, ndn hs2.1 hs2.2, bind_s, ocons_s, bind_s, loopW_some.mpr ⟨_, r1⟩]
  rfl
theorem lwh (i : Int) : m__law_whole i = some true := rfl
theorem whole_tri (t : Tri) : oall (Option.bind (otl (some t)) fun xs4 => if capOk xs4.length then lcM oYes (fun (x3 : Int) => (Option.bind (some x3) m__law_whole)) xs4 else none) = some true := rfl
theorem whole_pair (t : Int × Int) : oall (Option.bind (opl (some t)) fun xs4 => if capOk xs4.length then lcM oYes (fun (x3 : Int) => (Option.bind (some x3) m__law_whole)) xs4 else none) = some true := rfl
theorem lsp {s : Script} {k : Int} (hk : 0 ≤ k) {pts : List Pt} (hb : ∀ p ∈ pts, box 1000000 p) (hn : pts ≠ []) (hl : pts.length ≤ 100) : ∃ q, m__law_spot s k pts = some q ∧ pb q := by
  obtain ⟨c, hc⟩ := cel (s := s) (k := k) hk
  obtain ⟨v, hv, hv0⟩ := mxd c k
  have hpl := List.length_pos_iff.mpr hn
  have w0 : 0 ≤ v / 5 := Int.ediv_nonneg hv0 (by decide)
  have i0 := Int.emod_nonneg (v / 5) (show (pts.length : Int) ≠ 0 by omega)
  have i1 := Int.emod_lt_of_pos (v / 5) (show 0 < (pts.length : Int) by omega)
  have j0 := Int.emod_nonneg (v / 5 / 80) (show (pts.length : Int) ≠ 0 by omega)
  have j1 := Int.emod_lt_of_pos (v / 5 / 80) (show 0 < (pts.length : Int) by omega)
  obtain ⟨b1, b2, b3, b4⟩ := hb _ (ptAt_mem i0 i1)
  obtain ⟨d1, d2, d3, d4⟩ := hb _ (ptAt_mem j0 j1)
  unfold m__law_spot mb__law_spot
  rw [bind2_s, hc, bind2_s, hv, bind_s, ofdiv_q v (by decide) (by decide), bind_s, olen_s, omod_s _ (by omega), ptAt_idx i0 i1, bind_s, omod_s _ (by decide), oeq_s, oeq_s, oeq_s, oite_s, oite_s, oite_s]
  generalize ptAt pts (v / 5 % (pts.length : Int)) = A at *
  by_cases c0 : v % 5 = 0
  · rw [if_pos (decide_eq_true c0)]
    exact ⟨A, rfl, pb_of (B := 1000000) ⟨b1, b2, b3, b4⟩⟩
  rw [if_neg (by rw [decide_eq_true_eq]; exact c0)]
  by_cases c1 : v % 5 = 1
  · rw [if_pos (decide_eq_true c1), ofdiv_q _ (by decide) (by decide), omod_s _ (by decide), osub_s, bind_s, omod_s _ (by decide), osub_s, omk2_s]
    exact ⟨_, rfl, pb_of (B := 1000000) ⟨by dsimp; omega, by dsimp; omega, by dsimp; omega, by dsimp; omega⟩⟩
  rw [if_neg (by rw [decide_eq_true_eq]; exact c1)]
  by_cases c2 : v % 5 = 2
  · rw [if_pos (decide_eq_true c2), ofst_s, osnd_s, ofdiv_q _ (by decide) (by decide), ofdiv_q _ (by decide) (by decide), omod_s _ (by decide), oadd_s, osub_s, bind_s, ofdiv_q _ (by decide) (by decide), ofdiv_q _ (by decide) (by decide), omod_s _ (by decide), oadd_s, osub_s, omk2_s]
    exact ⟨_, rfl, pb_of (B := 1000010) ⟨by dsimp; omega, by dsimp; omega, by dsimp; omega, by dsimp; omega⟩⟩
  rw [if_neg (by rw [decide_eq_true_eq]; exact c2), ofdiv_q _ (by decide) (by decide), omod_s _ (by omega), ptAt_idx j0 j1, bind_s]
  generalize ptAt pts (v / 5 / 80 % (pts.length : Int)) = D at *
  rw [ofst_s, ofst_s, osnd_s, osnd_s, oadd_s, oadd_s, ofdiv_q _ (by decide) (by decide), ofdiv_q _ (by decide) (by decide), omk2_s]
  exact ⟨_, rfl, pb_of (B := 1000010) ⟨by dsimp; omega, by dsimp; omega, by dsimp; omega, by dsimp; omega⟩⟩
theorem loop_all {α β : Type} {f : α → Unit → Option (Out β Unit)} : ∀ l : List α, (∀ x ∈ l, f x () = some (.go ())) → loopL f l () = some (.go ())
  | [], _ => rfl
  | x :: r, h => by rw [loopL_go (h x (by simp)), loop_all r fun y hy => h y (by simp [hy])]
theorem loop_first {β : Type} {f : Int × Int → Unit → Option (Out β Unit)} {W : Int × Int → Prop} {r : Int × Int → β} {e : Int × Int} : ∀ l : List (Int × Int), l.Pairwise (fun x y => leP x y = true) → (∀ x ∈ l, W x → f x () = some (.ret (r x))) → (∀ x ∈ l, ¬ W x → f x () = some (.go ())) → e ∈ l → W e → (∀ x ∈ l, W x → leP e x = true) →
    loopL f l () = some (.ret (r e))
  | [], _, _, _, h, _, _ => nomatch h
  | y :: l, pw, h1, h2, he, we, le => by
    have pw := List.pairwise_cons.mp pw
    by_cases wy : W y
    · have : e = y := by
        rcases List.mem_cons.mp he with q | q
        · exact q
        · exact leP_anti _ _ (le y (by simp) wy) (pw.1 e q)
      rw [this, loopL_ret (h1 y (by simp) wy)]
    · rw [loopL_go (h2 y (by simp) wy)]
      refine loop_first l pw.2 (fun x hx => h1 x (by simp [hx])) (fun x hx => h2 x (by simp [hx])) ?_ we fun x hx => le x (by simp [hx])
      rcases List.mem_cons.mp he with q | q
      · rw [q] at we; exact absurd we wy
      · exact q
theorem ltr {N : List Tri} (hl : N.length ≤ 100) (v : Int) : ∃ j, m__law_turned N v = some (trnd j N) := by
  unfold m__law_turned mb__law_turned
  rw [olen_s, oadd_s, omod_s _ (by omega), bind_s]
  have k0 := Int.emod_nonneg v (show (N.length : Int) + 1 ≠ 0 by omega)
  generalize v % ((N.length : Int) + 1) = kk at *
  obtain ⟨j, rfl⟩ : ∃ j : Nat, kk = (j : Int) := ⟨kk.toNat, by omega⟩
  refine ⟨j, ?_⟩
  rw [cut_from, cut_to, bind_s, if_pos (show capOk (N.drop j).length = true from decide_eq_true (by rw [List.length_drop]; omega)), lcM_map rot (fun (x1 : Tri) => (omk3 (otri (some x1) (some (1 : Int))) (otri (some x1) (some (2 : Int))) (otri (some x1) (some (0 : Int))))) _ (fun x _ => rfl), bind_s, ocat_s (by simp; omega)]
  rfl
theorem lkn {R : List Int} {n : Int} (h : R.length ≤ 1000000) (hR : ∀ x ∈ R, x ∈ rngL n) : m__law_known R n = some true := by
  unfold m__law_known mb__law_known
  rw [oisi_s, onot_s, oite_s, if_neg (by decide), bind_s, if_pos (show capOk R.length = true from decide_eq_true h), lcM_map (fun _ => true) (fun (x1 : Int) => (oand (Option.bind (some x1) m__law_whole) (ochn (some (0 : Int)) (some x1) (some n)))) _ (fun x hx => by
    have := mem_rngL.mp (hR x hx)
    have c : ochn (some (0 : Int)) (some x) (some n) = some true := by
      show (if 0 ≤ x then Option.bind (some n) fun k => some (decide (x < k)) else some false) = _
      rw [if_pos this.1, bind_s, decide_eq_true this.2]
    rw [c]
    rfl)]
  have oa : oall (some (R.map fun _ => true)) = some true := by
    show some _ = _
    simp
  rw [oa]
  rfl
theorem minF_int (b : Int) (bs : List Int) : ∀ y ∈ b :: bs, minF b bs ≤ y := by
  have e : minF b bs = bs.foldl (fun a y => if y < a then y else a) b := by
    unfold minF
    congr 1
    funext a y
    by_cases h : y < a
    · rw [if_pos h, if_pos (show Ordd.lt y a = true from decide_eq_true h)]
    · rw [if_neg h, if_neg (show ¬ Ordd.lt y a = true from fun z => h (of_decide_eq_true z))]
  rw [e]
  exact (foldmin bs b).2
theorem law_true (ns : List Int) (_ : ns.length ≤ 63) : m_law ⟨ns⟩ = some true := by
  obtain ⟨pts, a1, a2, a3, a4, a5⟩ := lpts ⟨ns⟩ (most := 7) (by decide) (by decide)
  have hp : ∀ p ∈ pts, pb p := fun p h => pb_of (a5 p h)
  have hpl := List.length_pos_iff.mpr a2
  obtain ⟨c12, hc12⟩ := cel (s := ⟨ns⟩) (k := 12) (by decide)
  have hsw : RowP pts → m_swept pts = some ([], ordr pts) := fun r => by
    rcases spr hp a3 (by omega) a2 with ⟨_, sw, _⟩ | ⟨_, _, _, _, _, _, nr⟩
    · exact sw
    · exact absurd r nr
  obtain ⟨N, eN, hNl, hN⟩ : ∃ N, m_near pts = some N ∧ N.length ≤ 30 ∧ ((N = [] ∧ RowP pts) ∨ Nr (ptAt pts) (rngL (pts.length : Int)) N) := by
    rcases nea hp a3 (by omega) a2 with ⟨h, row⟩ | ⟨M, h, H, _, l⟩
    · exact ⟨[], h, by simp, .inl ⟨rfl, row⟩⟩
    · exact ⟨tld M, h, by rw [tld_len]; omega, .inr H.tld⟩
  obtain ⟨j, ej⟩ := ltr (N := N) (by omega) c12
  have tl := trnd_len j N
  obtain ⟨q, eq, hq⟩ := lsp (s := ⟨ns⟩) (k := 11) (by decide) a5 a2 (by omega)
  obtain ⟨rd, hR⟩ := rdn hp a3 a2 (by omega) (N := trnd j N) (by omega) (by
    rcases hN with ⟨rfl, row⟩ | HN
    · exact .inl ⟨by unfold trnd; simp, hsw row, row⟩
    · have tt := trnd_tld HN.net j
      refine .inr ⟨trnd_net HN.net j, fun a b c d h1 h2 => HN.loc a b c d ?_ ?_⟩
      · exact Tr_tld.mp (by rw [← tt]; exact Tr_tld.mpr h1)
      · exact Tr_tld.mp (by rw [← tt]; exact Tr_tld.mpr h2))
  have at_ : ∀ {i : Int}, i ∈ rngL (pts.length : Int) → pb (ptAt pts i) := fun h => hp _ (ptAt_mem (mem_rngL.mp h).1 (mem_rngL.mp h).2)
  have ix : ∀ {i : Int}, i ∈ rngL (pts.length : Int) → oidx (some pts) (some i) = some (ptAt pts i) := fun h => ptAt_idx (mem_rngL.mp h).1 (mem_rngL.mp h).2
  obtain ⟨least, el, le1, le2⟩ : ∃ least, ominL (some (pts.map fun x => far x q)) = some least ∧ (∀ x ∈ rngL (pts.length : Int), least ≤ far (ptAt pts x) q) ∧ ∃ x ∈ rngL (pts.length : Int), far (ptAt pts x) q = least := by
    obtain ⟨b, bs, eb⟩ : ∃ b bs, (pts.map fun x => far x q) = b :: bs := by
      cases e : (pts.map fun x => far x q) with
      | nil => exact absurd (List.map_eq_nil_iff.mp e) a2
      | cons b bs => exact ⟨b, bs, rfl⟩
    refine ⟨minF b bs, by rw [eb]; rfl, fun x hx => minF_int b bs _ (by rw [← eb]; exact List.mem_map.mpr ⟨_, ptAt_mem (mem_rngL.mp hx).1 (mem_rngL.mp hx).2, rfl⟩), ?_⟩
    have m := minF_mem b bs
    rw [← eb] at m
    obtain ⟨x, hx, ex⟩ := List.mem_map.mp m
    obtain ⟨i, i0, i1, ei⟩ := ptAt_of hx
    exact ⟨i, mem_rngL.mpr ⟨i0, i1⟩, by rw [ei, ex]⟩
  have nearest : ∀ s ∈ rngL (pts.length : Int), (∀ x ∈ rd s, far (ptAt pts s) q ≤ far (ptAt pts x) q) → far (ptAt pts s) q = least := fun s hs h => by
    obtain ⟨x, hx, ex⟩ := le2
    have h1 := (hR s hs).2.2.2 q h x hx
    have h2 := le1 s hs
    omega
  have same1 : ∀ {α : Type} [DecidableEq α] (a : α), one_ (some a) (some a) = some false := fun a => by rw [one_s, decide_eq_true rfl]; rfl
  have ot : ∀ {α β : Type} (x : α) (y : β), otwo (some x) (some y) = some ⟨x, y⟩ := fun x y => rfl
  have oA : ∀ {α β : Type} (x : Two α β), otwoA (some x) = some x.a := fun x => rfl
  have oB : ∀ {α β : Type} (x : Two α β), otwoB (some x) = some x.b := fun x => rfl
  unfold m_law mb_law
  rw [bind2_s, a1, bind_s, bind_s, eN, bind2_s, hc12, bind2_s, ej, bind_s, ot, bind_s, bind3_s, eq, bind_s, bind_s, if_pos (show capOk pts.length = true from decide_eq_true (by omega)), lcM_map (fun x => far x q) (fun (x1 : (Int × Int)) => (bind2 (some x1) (some q) m__law_far)) _ (fun x hx => by rw [bind2_s, lfr (hp x hx) hq]), el, bind_s, olen_s, orng_s (by omega) (by omega), bind_s, loop_all (rngL (pts.length : Int)) ?hs, thenO_go, oeq_s, decide_eq_true rfl]
  · rfl
  case hs =>
    intro s hs
    obtain ⟨r1, r2, r3, r4⟩ := hR s hs
    obtain ⟨R, w1, w2, w3, w4, w5, l, w6, w7⟩ := wlk3 hp (by omega) hR hq hs
    rw [oA, oB]
    dsimp only
    rw [bind3_s, r1, bind_s, bind2_s, lkn (by omega) r2, onot_s, oite_s, if_neg (by decide), ix hs, bind2_s, lfr (at_ hs) hq, bind_s, bind_s, if_pos (show capOk (rd s).length = true from decide_eq_true (by omega)),
      lcM_filter (fun x => decide (far (ptAt pts x) q < far (ptAt pts s) q)) (fun x => x) (fun (x5 : Int) => (olt (bind2 (oidx (some pts) (some x5)) (some q) m__law_far) (some (far (ptAt pts s) q)))) (fun (x5 : Int) => (some x5)) _ (fun x hx => by rw [ix (r2 x hx), bind2_s, lfr (at_ (r2 x hx)) hq, olt_s]) (fun x _ _ => rfl), List.map_id', bind_s]
    have eqv : decide (far (ptAt pts s) q = least) = decide ((rd s).filter (fun x => decide (far (ptAt pts x) q < far (ptAt pts s) q)) = []) := by
      refine decide_eq_decide.mpr ⟨fun h => ?_, fun h => ?_⟩
      · refine List.eq_nil_iff_forall_not_mem.mpr fun x hx => ?_
        obtain ⟨h1, h2⟩ := List.mem_filter.mp hx
        have h2 := of_decide_eq_true h2
        have := le1 x (r2 x h1)
        omega
      · refine nearest s hs fun x hx => ?_
        by_cases c : far (ptAt pts x) q < far (ptAt pts s) q
        · have : x ∈ (rd s).filter (fun x => decide (far (ptAt pts x) q < far (ptAt pts s) q)) := List.mem_filter.mpr ⟨hx, decide_eq_true c⟩
          rw [h] at this
          cases this
        · omega
    have lS : l ∈ rngL (pts.length : Int) := w2 l (by rw [List.getLast?_eq_getElem?] at w6; exact List.mem_of_getElem? w6)
    have fl : far (ptAt pts l) q = least := nearest l lS (nxt_none w7)
    have ct : ocut (some R) (some none) (osome (some (1 : Int))) = some [s] := by
      have := cut_to R 1
      rw [show ((1 : Nat) : Int) = 1 from rfl] at this
      rw [this]
      cases R with
      | nil => cases w4
      | cons a r =>
        cases w4
        rfl
    have cf : ocut (some R) (osome (some (1 : Int))) (some none) = some (R.drop 1) := cut_from R 1
    rw [oeq_s, oeq_s, eqv, same1, oite_s, if_neg (by decide), bind4_s, w1, bind_s, bind2_s, lkn w3 w2, onot_s, ct, ocons_s, same1, oor_ss, oite_s, if_neg (by decide), last_idx w6, ix lS, bind2_s, lfr (at_ lS) hq, fl, same1, oite_s, if_neg (by decide), cf]
    rw [show ozip (some R) (some (R.drop 1)) = some (R.zip (R.drop 1)) from rfl, bind_s, loop_all (R.zip (R.drop 1)) ?hz, thenO_go]
    case hz =>
      intro e he
      obtain ⟨i, hi, ei⟩ := List.mem_iff_getElem.mp he
      rw [List.length_zip, List.length_drop] at hi
      rw [List.getElem_zip] at ei
      have e1 : R[i]? = some e.1 := by rw [← ei]; exact List.getElem?_eq_getElem (by omega)
      have e2 : R[i + 1]? = some e.2 := by
        rw [← ei]
        rw [List.getElem?_eq_getElem (by omega)]
        simp [List.getElem_drop, Nat.add_comm]
      have nx := nxt_some (w5 i _ _ e1 e2)
      have m1 := w2 _ (List.mem_of_getElem? e1)
      have m2 := w2 _ (List.mem_of_getElem? e2)
      have on : onin (some e.2) (some (rd e.1)) = some false := by simp [onin_s, nx.1]
      rw [bind3_s, (hR _ m1).1, on, oite_s, if_neg (by decide), ix m2, ix m1, bind2_s, bind2_s, lfr (at_ m2) hq, lfr (at_ m1) hq, oge_s, oite_s, if_neg (by rw [decide_eq_true_eq]; have := nx.2.1; omega)]
end G_k13
namespace G_k13
open PySem PySem.Spec PyProof.Rows L2 T
theorem facts [Tb] {P : Program} {w : World} {K : PySem.W.Frag} {h : Heap} {mg : Str → Option Value} {f : Addr} (X : K.In h) (G : h.Ns mainGlobals mg) (hfa : mg ("law" : Str) = some (.ref f)) (c : He.SaysD fa fn K) (hx : xb K = true) (hT : Tb.T = [((He.cT K ("in_order", none)).2, lamN)]) :
    ∃ fd : FuncData, (∀ (s : Shared) (v : Value), BindsTo s fd ⟨[v], []⟩ [("_law_script", v)]) ∧ ∀ base : Heap, K.In base → base.Ns mainGlobals mg → LamX.TabB base mg (He.codeOf K ("in_order", none)) (He.cT K ("in_order", none)).2 → FnOk P w K mg base CX0 9 f fd ["_law_script"] (spOf K false (C1 m_law)) := by
  have B : Fr mg := ⟨(He.free_ok X G (c.fact 38 (f := .free "int") rfl)), (He.free_ok X G (c.fact 39 (f := .free "sorted") rfl)), (He.free_ok X G (c.fact 40 (f := .free "list") rfl)), (He.free_ok X G (c.fact 41 (f := .free "range") rfl)), (He.free_ok X G (c.fact 42 (f := .free "len") rfl)), (He.free_ok X G (c.fact 43 (f := .free "min") rfl)), (He.free_ok X G (c.fact 44 (f := .free "reversed") rfl)), (He.free_ok X G (c.fact 45 (f := .free "bool") rfl)), (He.free_ok X G (c.fact 46 (f := .free "isinstance") rfl)), (He.free_ok X G (c.fact 47 (f := .free "max") rfl)), (He.free_ok X G (c.fact 48 (f := .free "set") rfl)), (He.free_ok X G (c.fact 49 (f := .free "all") rfl)), (He.free_ok X G (c.fact 50 (f := .free "zip") rfl))⟩
  obtain ⟨fd0, F0⟩ := c.def_ 0 (d := d_twice_area) rfl
  have b0 : Binds K fd0 ["a", "b", "c"] [] := F0.bindsN fun _ _ _ _ _ _ us hl => match us, hl with | [_, _, _], _ => rfl
  obtain ⟨fd1, F1⟩ := c.def_ 1 (d := d_sign) rfl
  have b1 : Binds K fd1 ["number"] [] := F1.bindsN fun _ _ _ _ _ _ us hl => match us, hl with | [_], _ => rfl
  obtain ⟨fd2, F2⟩ := c.def_ 2 (d := d_turn) rfl
  have b2 : Binds K fd2 ["a", "b", "c"] [] := F2.bindsN fun _ _ _ _ _ _ us hl => match us, hl with | [_, _, _], _ => rfl
  obtain ⟨fd3, F3⟩ := c.def_ 3 (d := d_far) rfl
  have b3 : Binds K fd3 ["a", "b"] [] := F3.bindsN fun _ _ _ _ _ _ us hl => match us, hl with | [_, _], _ => rfl
  obtain ⟨fd4, F4⟩ := c.def_ 4 (d := d_ring) rfl
  have b4 : Binds K fd4 ["a", "b", "c", "d"] [] := F4.bindsN fun _ _ _ _ _ _ us hl => match us, hl with | [_, _, _, _], _ => rfl
  obtain ⟨fd5, F5⟩ := c.def_ 5 (d := d_in_order) rfl
  have b5 : Binds K fd5 ["points"] [] := F5.bindsN fun _ _ _ _ _ _ us hl => match us, hl with | [_], _ => rfl
  obtain ⟨fd6, F6⟩ := c.def_ 6 (d := d_first_off) rfl
  have b6 : Binds K fd6 ["points", "order"] [] := F6.bindsN fun _ _ _ _ _ _ us hl => match us, hl with | [_, _], _ => rfl
  obtain ⟨fd7, F7⟩ := c.def_ 7 (d := d_rolled) rfl
  have b7 : Binds K fd7 ["triple"] [] := F7.bindsN fun _ _ _ _ _ _ us hl => match us, hl with | [_], _ => rfl
  obtain ⟨fd8, F8⟩ := c.def_ 8 (d := d_swept) rfl
  have b8 : Binds K fd8 ["points"] [] := F8.bindsN fun _ _ _ _ _ _ us hl => match us, hl with | [_], _ => rfl
  obtain ⟨fd9, F9⟩ := c.def_ 9 (d := d_joined) rfl
  have b9 : Binds K fd9 ["kept", "number"] [] := F9.bindsN fun _ _ _ _ _ _ us hl => match us, hl with | [_, _], _ => rfl
  obtain ⟨fd10, F10⟩ := c.def_ 10 (d := d_hull) rfl
  have b10 : Binds K fd10 ["points"] [] := F10.bindsN fun _ _ _ _ _ _ us hl => match us, hl with | [_], _ => rfl
  obtain ⟨fd11, F11⟩ := c.def_ 11 (d := d_spread) rfl
  have b11 : Binds K fd11 ["points"] [] := F11.bindsN fun _ _ _ _ _ _ us hl => match us, hl with | [_], _ => rfl
  obtain ⟨fd12, F12⟩ := c.def_ 12 (d := d_need_number) rfl
  have b12 : Binds K fd12 ["points", "number"] [] := F12.bindsN fun _ _ _ _ _ _ us hl => match us, hl with | [_, _], _ => rfl
  obtain ⟨fd13, F13⟩ := c.def_ 13 (d := d_beside) rfl
  have b13 : Binds K fd13 ["points", "number"] [] := F13.bindsN fun _ _ _ _ _ _ us hl => match us, hl with | [_, _], _ => rfl
  obtain ⟨fd14, F14⟩ := c.def_ 14 (d := d_later_of) rfl
  have b14 : Binds K fd14 ["net", "number"] [] := F14.bindsN fun _ _ _ _ _ _ us hl => match us, hl with | [_, _], _ => rfl
  obtain ⟨fd15, F15⟩ := c.def_ 15 (d := d_in_turn) rfl
  have b15 : Binds K fd15 ["later"] [] := F15.bindsN fun _ _ _ _ _ _ us hl => match us, hl with | [_], _ => rfl
  obtain ⟨fd16, F16⟩ := c.def_ 16 (d := d_around) rfl
  have b16 : Binds K fd16 ["points", "net", "number"] [] := F16.bindsN fun _ _ _ _ _ _ us hl => match us, hl with | [_, _, _], _ => rfl
  obtain ⟨fd17, F17⟩ := c.def_ 17 (d := d_walked) rfl
  have b17 : Binds K fd17 ["points", "net", "start", "spot"] [] := F17.bindsN fun _ _ _ _ _ _ us hl => match us, hl with | [_, _, _, _], _ => rfl
  obtain ⟨fd18, F18⟩ := c.def_ 18 (d := d_tops) rfl
  have b18 : Binds K fd18 ["net"] [] := F18.bindsN fun _ _ _ _ _ _ us hl => match us, hl with | [_], _ => rfl
  obtain ⟨fd19, F19⟩ := c.def_ 19 (d := d_is_wrong) rfl
  have b19 : Binds K fd19 ["points", "top", "side"] [] := F19.bindsN fun _ _ _ _ _ _ us hl => match us, hl with | [_, _, _], _ => rfl
  obtain ⟨fd20, F20⟩ := c.def_ 20 (d := d_wrong_of) rfl
  have b20 : Binds K fd20 ["points", "top", "some"] [] := F20.bindsN fun _ _ _ _ _ _ us hl => match us, hl with | [_, _, _], _ => rfl
  obtain ⟨fd21, F21⟩ := c.def_ 21 (d := d_turned_over) rfl
  have b21 : Binds K fd21 ["top", "side"] [] := F21.bindsN fun _ _ _ _ _ _ us hl => match us, hl with | [_, _], _ => rfl
  obtain ⟨fd22, F22⟩ := c.def_ 22 (d := d_mended) rfl
  have b22 : Binds K fd22 ["points", "net"] [] := F22.bindsN fun _ _ _ _ _ _ us hl => match us, hl with | [_, _], _ => rfl
  obtain ⟨fd23, F23⟩ := c.def_ 23 (d := d_near) rfl
  have b23 : Binds K fd23 ["points"] [] := F23.bindsN fun _ _ _ _ _ _ us hl => match us, hl with | [_], _ => rfl
  obtain ⟨fd24, F24⟩ := c.def_ 24 (d := d__law_cell_at) rfl
  have b24 : Binds K fd24 ["_law_script", "_law_k"] [] := F24.bindsN fun _ _ _ _ _ _ us hl => match us, hl with | [_, _], _ => rfl
  obtain ⟨fd25, F25⟩ := c.def_ 25 (d := d__law_mixed) rfl
  have b25 : Binds K fd25 ["_law_cell", "_law_k"] [] := F25.bindsN fun _ _ _ _ _ _ us hl => match us, hl with | [_, _], _ => rfl
  obtain ⟨fd26, F26⟩ := c.def_ 26 (d := d__law_point) rfl
  have b26 : Binds K fd26 ["_law_kind", "_law_number"] [] := F26.bindsN fun _ _ _ _ _ _ us hl => match us, hl with | [_, _], _ => rfl
  obtain ⟨fd27, F27⟩ := c.def_ 27 (d := d__law_grown) rfl
  have b27 : Binds K fd27 ["_law_point_here", "_law_kind", "_law_by", "_law_number"] [] := F27.bindsN fun _ _ _ _ _ _ us hl => match us, hl with | [_, _, _, _], _ => rfl
  obtain ⟨fd28, F28⟩ := c.def_ 28 (d := d__law_points) rfl
  have b28 : Binds K fd28 ["_law_script", "_law_most"] [] := F28.bindsN fun _ _ _ _ _ _ us hl => match us, hl with | [_, _], _ => rfl
  obtain ⟨fd29, F29⟩ := c.def_ 29 (d := d__law_far) rfl
  have b29 : Binds K fd29 ["_law_a", "_law_b"] [] := F29.bindsN fun _ _ _ _ _ _ us hl => match us, hl with | [_, _], _ => rfl
  obtain ⟨fd30, F30⟩ := c.def_ 30 (d := d__law_whole) rfl
  have b30 : Binds K fd30 ["_law_found"] [] := F30.bindsN fun _ _ _ _ _ _ us hl => match us, hl with | [_], _ => rfl
  obtain ⟨fd31, F31⟩ := c.def_ 31 (d := d__law_spot) rfl
  have b31 : Binds K fd31 ["_law_script", "_law_at", "_law_points_here"] [] := F31.bindsN fun _ _ _ _ _ _ us hl => match us, hl with | [_, _, _], _ => rfl
  obtain ⟨fd32, F32⟩ := c.def_ 32 (d := d__law_known) rfl
  have b32 : Binds K fd32 ["_law_found", "_law_many"] [] := F32.bindsN fun _ _ _ _ _ _ us hl => match us, hl with | [_, _], _ => rfl
  obtain ⟨fd33, F33⟩ := c.def_ 33 (d := d__law_turned) rfl
  have b33 : Binds K fd33 ["_law_net", "_law_at"] [] := F33.bindsN fun _ _ _ _ _ _ us hl => match us, hl with | [_, _], _ => rfl
  obtain ⟨fd34, F34⟩ := c.def_ 34 (d := d_law) rfl
  have e := hfa.symm.trans (He.glo_ok X G (c.fact 34 (f := .glo "law") rfl))
  cases e
  have bl := FunD.bindsA (ps := ["_law_script"]) F34 fun _ _ _ _ _ _ us hl => match us, hl with | [_], _ => rfl
  refine ⟨fd34, fun s v => bl s [v] rfl, fun base _ _ TB => ?_⟩
  have h_twice_area : Has P w K mg base 1 "twice_area" ["a", "b", "c"] (spOf K false (C3 m_twice_area)) := has_of (ok_twice_area B  F0) (He.glo_ok X G (c.fact 0 (f := .glo "twice_area") rfl)) F0.kp b0
  have h_sign : Has P w K mg base 1 "sign" ["number"] (spOf K false (C1 m_sign)) := has_of (ok_sign B  F1) (He.glo_ok X G (c.fact 1 (f := .glo "sign") rfl)) F1.kp b1
  have h_turn : Has P w K mg base 2 "turn" ["a", "b", "c"] (spOf K false (C3 m_turn)) := has_of (ok_turn B h_twice_area h_sign F2) (He.glo_ok X G (c.fact 2 (f := .glo "turn") rfl)) F2.kp b2
  have h_far : Has P w K mg base 1 "far" ["a", "b"] (spOf K false (C2 m_far)) := has_of (ok_far B  F3) (He.glo_ok X G (c.fact 3 (f := .glo "far") rfl)) F3.kp b3
  have h_ring : Has P w K mg base 3 "ring" ["a", "b", "c", "d"] (spOf K false (C4 m_ring)) := has_of (ok_ring B h_turn h_far h_twice_area h_sign F4) (He.glo_ok X G (c.fact 4 (f := .glo "ring") rfl)) F4.kp b4
  have h_in_order : Has P w K mg base 2 "in_order" ["points"] (spOf K true (C1 m_in_order)) := has_of (ok_in_order B hT TB F5) (He.glo_ok X G (c.fact 5 (f := .glo "in_order") rfl)) F5.kp b5
  have h_first_off : Has P w K mg base 3 "first_off" ["points", "order"] (spOf K false (C2 m_first_off)) := has_of (ok_first_off B h_turn F6) (He.glo_ok X G (c.fact 6 (f := .glo "first_off") rfl)) F6.kp b6
  have h_rolled : Has P w K mg base 1 "rolled" ["triple"] (spOf K false (C1 m_rolled)) := has_of (ok_rolled B  F7) (He.glo_ok X G (c.fact 7 (f := .glo "rolled") rfl)) F7.kp b7
  have h_joined : Has P w K mg base 1 "joined" ["kept", "number"] (spOf K true (C2 m_joined)) := has_of (ok_joined B  F9) (He.glo_ok X G (c.fact 9 (f := .glo "joined") rfl)) F9.kp b9
  have h_swept : Has P w K mg base 4 "swept" ["points"] (spOf K false (C1 m_swept)) := has_of (ok_swept B h_in_order h_first_off h_turn h_joined F8) (He.glo_ok X G (c.fact 8 (f := .glo "swept") rfl)) F8.kp b8
  have h_hull : Has P w K mg base 5 "hull" ["points"] (spOf K true (C1 m_hull)) := has_of (ok_hull B h_in_order h_swept F10) (He.glo_ok X G (c.fact 10 (f := .glo "hull") rfl)) F10.kp b10
  have h_spread : Has P w K mg base 5 "spread" ["points"] (spOf K true (C1 m_spread)) := has_of (ok_spread B h_swept h_rolled F11) (He.glo_ok X G (c.fact 11 (f := .glo "spread") rfl)) F11.kp b11
  have h_need_number : Has P w K mg base 1 "need_number" ["points", "number"] (spOf K false (C2 m_need_number)) := has_of (ok_need_number B  F12) (He.glo_ok X G (c.fact 12 (f := .glo "need_number") rfl)) F12.kp b12
  have h_beside : Has P w K mg base 6 "beside" ["points", "number"] (spOf K true (C2 m_beside)) := has_of (ok_beside B h_hull F13) (He.glo_ok X G (c.fact 13 (f := .glo "beside") rfl)) F13.kp b13
  have h_later_of : Has P w K mg base 1 "later_of" ["net", "number"] (spOf K true (C2 m_later_of)) := has_of (ok_later_of B  F14) (He.glo_ok X G (c.fact 14 (f := .glo "later_of") rfl)) F14.kp b14
  have h_in_turn : Has P w K mg base 1 "in_turn" ["later"] (spOf K true (C1 m_in_turn)) := has_of (ok_in_turn B  F15) (He.glo_ok X G (c.fact 15 (f := .glo "in_turn") rfl)) F15.kp b15
  have h_around : Has P w K mg base 7 "around" ["points", "net", "number"] (spOf K true (C3 m_around)) := has_of (ok_around B h_need_number h_beside h_later_of h_in_turn F16) (He.glo_ok X G (c.fact 16 (f := .glo "around") rfl)) F16.kp b16
  have h_walked : Has P w K mg base 8 "walked" ["points", "net", "start", "spot"] (spOf K true (C4 m_walked)) := has_of (ok_walked B h_need_number h_far h_around F17) (He.glo_ok X G (c.fact 17 (f := .glo "walked") rfl)) F17.kp b17
  have h_tops : Has P w K mg base 1 "tops" ["net"] (spOf K true (C1 m_tops)) := has_of (ok_tops B  F18) (He.glo_ok X G (c.fact 18 (f := .glo "tops") rfl)) F18.kp b18
  have h_is_wrong : Has P w K mg base 4 "is_wrong" ["points", "top", "side"] (spOf K false (C3 m_is_wrong)) := has_of (ok_is_wrong B h_ring F19) (He.glo_ok X G (c.fact 19 (f := .glo "is_wrong") rfl)) F19.kp b19
  have h_wrong_of : Has P w K mg base 5 "wrong_of" ["points", "top", "some"] (spOf K true (C3 m_wrong_of)) := has_of (ok_wrong_of B h_is_wrong F20) (He.glo_ok X G (c.fact 20 (f := .glo "wrong_of") rfl)) F20.kp b20
  have h_turned_over : Has P w K mg base 1 "turned_over" ["top", "side"] (spM K m_turned_over) := has_of (ok_turned_over B  F21) (He.glo_ok X G (c.fact 21 (f := .glo "turned_over") rfl)) F21.kp b21
  have h_mended : Has P w K mg base 6 "mended" ["points", "net"] (spOf K false (C2 m_mended)) := has_of (ok_mended B h_tops h_wrong_of h_turned_over h_rolled F22) (He.glo_ok X G (c.fact 22 (f := .glo "mended") rfl)) F22.kp b22
  have h_near : Has P w K mg base 7 "near" ["points"] (spOf K false (C1 m_near)) := has_of (ok_near B h_spread h_mended F23) (He.glo_ok X G (c.fact 23 (f := .glo "near") rfl)) F23.kp b23
  have h__law_cell_at : Has P w K mg base 1 "_law_cell_at" ["_law_script", "_law_k"] (spOf K false (C2 m__law_cell_at)) := has_of (ok__law_cell_at B  F24) (He.glo_ok X G (c.fact 24 (f := .glo "_law_cell_at") rfl)) F24.kp b24
  have h__law_mixed : Has P w K mg base 1 "_law_mixed" ["_law_cell", "_law_k"] (spOf K false (C2 m__law_mixed)) := has_of (ok__law_mixed B  F25) (He.glo_ok X G (c.fact 25 (f := .glo "_law_mixed") rfl)) F25.kp b25
  have h__law_point : Has P w K mg base 1 "_law_point" ["_law_kind", "_law_number"] (spOf K false (C2 m__law_point)) := has_of (ok__law_point B  F26) (He.glo_ok X G (c.fact 26 (f := .glo "_law_point") rfl)) F26.kp b26
  have h__law_grown : Has P w K mg base 1 "_law_grown" ["_law_point_here", "_law_kind", "_law_by", "_law_number"] (spOf K false (C4 m__law_grown)) := has_of (ok__law_grown B  F27) (He.glo_ok X G (c.fact 27 (f := .glo "_law_grown") rfl)) F27.kp b27
  have h__law_points : Has P w K mg base 2 "_law_points" ["_law_script", "_law_most"] (spOf K true (C2 m__law_points)) := has_of (ok__law_points B h__law_cell_at h__law_mixed h__law_point h__law_grown F28) (He.glo_ok X G (c.fact 28 (f := .glo "_law_points") rfl)) F28.kp b28
  have h__law_far : Has P w K mg base 1 "_law_far" ["_law_a", "_law_b"] (spOf K false (C2 m__law_far)) := has_of (ok__law_far B  F29) (He.glo_ok X G (c.fact 29 (f := .glo "_law_far") rfl)) F29.kp b29
  have h__law_whole : Has P w K mg base 1 "_law_whole" ["_law_found"] (spOf K false (C1 m__law_whole)) := has_of (ok__law_whole B  F30) (He.glo_ok X G (c.fact 30 (f := .glo "_law_whole") rfl)) F30.kp b30
  have h__law_spot : Has P w K mg base 2 "_law_spot" ["_law_script", "_law_at", "_law_points_here"] (spOf K false (C3 m__law_spot)) := has_of (ok__law_spot B h__law_cell_at h__law_mixed F31) (He.glo_ok X G (c.fact 31 (f := .glo "_law_spot") rfl)) F31.kp b31
  have h__law_known : Has P w K mg base 2 "_law_known" ["_law_found", "_law_many"] (spOf K false (C2 m__law_known)) := has_of (ok__law_known B h__law_whole F32) (He.glo_ok X G (c.fact 32 (f := .glo "_law_known") rfl)) F32.kp b32
  have h__law_turned : Has P w K mg base 1 "_law_turned" ["_law_net", "_law_at"] (spOf K true (C2 m__law_turned)) := has_of (ok__law_turned B  F33) (He.glo_ok X G (c.fact 33 (f := .glo "_law_turned") rfl)) F33.kp b33
  exact ok_law B h__law_points h_near h__law_cell_at h__law_turned h__law_spot h__law_far h_around h__law_known h_walked F34
end G_k13
open PySem PySem.W PySem.Calls PyProof.Rows
set_option maxRecDepth 100000 in
set_option maxHeartbeats 0 in
theorem PySem.Challenge.cw_nearfields_k13_whole_nearest_found_holds : PySem.Challenge.rw_nearfields_k13_whole_nearest_found.Holds := by
  w_on; o_law
  refine HandSHeadRun.head_any (r := OpenLaw.row PySem.Challenge.rw_nearfields_k13_whole_nearest_found) (q := view (OpenLaw.row PySem.Challenge.rw_nearfields_k13_whole_nearest_found).prog [43]) (H := G_k13.hk) (ob := G_k13.ob) (M := 9000) (loose := G_k13.lo) (d := HandSHeadRun.topDef (OpenLaw.row PySem.Challenge.rw_nearfields_k13_whole_nearest_found).prog 43) (kwd := []) G_k13.ob_eq
    (by kernel_rfl) (fun s => by kernel_rfl) G_k13.run (by kernel_rfl) (by kernel_rfl) (by kernel_rfl) (by rfl) (by first | assumption | decide +kernel) (by decide +kernel) ⟨rfl, rfl, rfl, rfl, rfl, by decide +kernel⟩ ?hw ?hc
  case hw => w_witness2
  case hc =>
    refine LamX.walk_ofTsE (l := PySem.Challenge.rw_nearfields_k13_whole_nearest_found) (n := 63) (k := 9) (x := "_law_script") (CX := fun _ => L2.CX0) rfl (by decide) (by kernel_rfl) ⟨rfl, by decide, by decide⟩ ?F (fun _ _ _ _ _ z => z)
    intro w mg fa h Y G hmg0
    obtain ⟨K, KX, c⟩ := Y
    have hmg : mg ("law" : PySem.Str) = some (.ref fa) := by
      have e : (HandSHeadRun.topDef (OpenLaw.row PySem.Challenge.rw_nearfields_k13_whole_nearest_found).prog 43).name = ("law" : PySem.Str) := by kernel_rfl
      rw [← e]
      exact hmg0
    letI tb : T.Tb := ⟨[((He.cT K ("in_order", none)).2, G_k13.lamN)]⟩
    obtain ⟨fd, hb, hF⟩ := G_k13.facts (P := (PySem.Challenge.rw_nearfields_k13_whole_nearest_found).prog) (w := w) KX G hmg c.t.d c.more rfl
    have one : ∀ p ∈ [He.cT K ("in_order", none)], p = He.cT K ("in_order", none) := fun p hp => List.mem_singleton.mp hp
    have mem : (("in_order", none) : He.Defn) ∈ G_k13.tf := List.mem_singleton.mpr rfl
    exact ⟨K, KX, fd, [He.cT K ("in_order", none)], _, fun p hp => by rw [one p hp]; exact c.empty _ mem, fun p hp => by rw [one p hp]; exact c.out _ mem, fun p hp => by rw [one p hp]; exact PySem.W.codeHd_of_K KX (c.hd _ mem), hb,
      fun H a ns hl _ hH hS => T.law_sp G_k13.law_true hl hS (fun p hp => by
        rw [List.mem_singleton.mp hp]
        exact LamX.TabS.nil (hH _ (List.mem_singleton.mpr rfl))), fun base kb nb tbs => hF base kb nb (tbs _ (List.mem_singleton.mpr rfl))⟩
#print axioms PySem.Challenge.cw_nearfields_k13_whole_nearest_found_holds
