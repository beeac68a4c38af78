import PyProof.Rows.All
import Wide.All
import OpenK.AllK
import Wide.FinOn
import KE.KStateDown
import HandS.ForMost
import HandS.Defaults
import HandS.Wide
import HandS.Evl
import HandS.Deep
import HandS.NoneIn
import HandS.ForExc
import HandS.ExcIs
import HandS.Head0
import HandS.Head1
import HandS.Head2
import HandS.HeadEnd
import HandS.HeadHook1
import HandS.HeadHook2
import HandS.IsInst
import PySem.Challenge.RW_nearfields_k02_middles
set_option Elab.async false
set_option linter.all false
set_option maxRecDepth 100000
set_option maxHeartbeats 4000000
set_option exponentiation.threshold 1000
/-! A typed layer over HandS: worlds (what is settled, what stands), values of plain Lean types, expressions and blocks that compute an Option of a plain value. -/
namespace T
open PySem PySem.Spec PyProof.Rows L2
open Evl (Ex)

/-! ### worlds -/
/-- s: what no one changes any more; h: all that is tracked -/
structure Wd where
  s : Hp
  h : Hp
  e : Ex s h
structure Wd.Le (a b : Wd) : Prop where
  s : Ex a.s b.s
  h : Ex a.h b.h
  f : ∀ p, a.h p ≠ none → a.s p = none → b.s p = none
theorem Wd.Le.refl (a : Wd) : a.Le a := ⟨Ex.refl _, Ex.refl _, fun _ _ h => h⟩
theorem ne_none_of {H : Hp} {p : Addr} {o : HO} (h : H p = some o) : H p ≠ none := by rw [h]; exact fun z => by cases z
theorem ex_ne {H H' : Hp} (e : Ex H H') {p : Addr} (h : H p ≠ none) : H' p ≠ none := by
  cases q : H p with
  | none => exact absurd q h
  | some o => exact ne_none_of (e p o q)
theorem ex_back {H H' : Hp} (e : Ex H H') {p : Addr} (h : H' p = none) : H p = none := Evl.fresh_back e h
theorem Wd.Le.trans {a b c : Wd} (x : a.Le b) (y : b.Le c) : a.Le c :=
  ⟨x.s.trans y.s, x.h.trans y.h, fun p h1 h2 => y.f p (ex_ne x.h h1) (x.f p h1 h2)⟩
def Wd.new (W : Wd) (p : Addr) (o : HO) : Wd := ⟨upd W.s p o, upd W.h p o, fun a u h => by
  by_cases e : a = p
  · subst e
    rw [upd_same] at h ⊢
    exact h
  · rw [upd_ne e] at h ⊢
    exact W.e a u h⟩
theorem Wd.Le.new (W : Wd) {p : Addr} (o : HO) (h : W.h p = none) : W.Le (W.new p o) :=
  ⟨Ex.new (ex_back W.e h), Ex.new h, fun q h1 h2 => by
    show upd W.s p o q = none
    rw [upd_ne (fun z => h1 (by rw [z]; exact h))]
    exact h2⟩

/-! ### plain values -/
class Rep (α : Type) where
  rel : PySem.W.Frag → Hp → V → α → Prop
  mono : ∀ {K : PySem.W.Frag} {H H' : Hp} {v : V} {a : α}, Ex H H' → rel K H v a → rel K H' v a
open Rep (rel)
instance : Rep Int := ⟨fun _ _ v a => v = .int a, fun _ h => h⟩
instance : Rep Bool := ⟨fun _ _ v a => v = .bl a, fun _ h => h⟩
instance : Rep Str := ⟨fun _ _ v a => v = .str a, fun _ h => h⟩
instance : Rep Unit := ⟨fun _ _ v _ => v = .non, fun _ h => h⟩
instance {α β : Type} [Rep α] [Rep β] : Rep (α × β) := ⟨fun K H v a => ∃ p x y, v = .ref p ∧ H p = some (.tup [x, y]) ∧ rel K H x a.1 ∧ rel K H y a.2,
  fun e ⟨p, x, y, h1, h2, h3, h4⟩ => ⟨p, x, y, h1, e _ _ h2, Rep.mono e h3, Rep.mono e h4⟩⟩
/-- three whole numbers in a tuple -/
structure Tri where
  a : Int
  b : Int
  c : Int
  deriving DecidableEq
instance : Rep Tri := ⟨fun _ H v t => ∃ p, v = .ref p ∧ H p = some (.tup [.int t.a, .int t.b, .int t.c]), fun e ⟨p, h1, h2⟩ => ⟨p, h1, e _ _ h2⟩⟩
theorem pmono {α β : Type} {F G : α → β → Prop} (f : ∀ a b, F a b → G a b) : ∀ {l₁ : List α} {l₂ : List β}, Paired F l₁ l₂ → Paired G l₁ l₂
  | _, _, .nil => .nil
  | _, _, .cons r t => .cons (f _ _ r) (pmono f t)
instance {α : Type} [Rep α] : Rep (List α) := ⟨fun K H v xs => ∃ p vs, v = .ref p ∧ H p = some (.lst vs) ∧ Paired (fun v x => rel K H v x) vs xs,
  fun e ⟨p, vs, h1, h2, h3⟩ => ⟨p, vs, h1, e _ _ h2, pmono (fun _ _ h => Rep.mono e h) h3⟩⟩
instance {α : Type} [Rep α] : Rep (Option α) := ⟨fun K H v o => match o with
  | none => v = .non
  | some a => rel K H v a, fun {K H H' v a} e h => by
    cases a with
    | none => exact h
    | some a => exact Rep.mono (α := α) e h⟩
/-- the script: a list that is read alone -/
structure Script where
  ns : List Int
instance : Rep Script := ⟨fun K H v s => ∃ p, v = .ref p ∧ SqL K H p (s.ns.map V.int), fun e ⟨p, h1, h2⟩ => ⟨p, h1, Evl.ex_l e h2⟩⟩
/-- values that lean on no list and no dict -/
class Flat (α : Type) extends Rep α where
  minus : ∀ {K : PySem.W.Frag} {H H' : Hp} {v : V} {a : α}, (∀ p xs, H p = some (.tup xs) → H' p = some (.tup xs)) → rel K H v a → rel K H' v a
instance : Flat Int where
  minus := fun _ h => h
instance : Flat Bool where
  minus := fun _ h => h
instance : Flat Str where
  minus := fun _ h => h
instance : Flat Unit where
  minus := fun _ h => h
instance {α β : Type} [Flat α] [Flat β] : Flat (α × β) where
  minus := fun m h => by
    obtain ⟨p, x, y, h1, h2, h3, h4⟩ := h
    exact ⟨p, x, y, h1, m _ _ h2, Flat.minus m h3, Flat.minus m h4⟩
instance : Flat Tri where
  minus := fun m h => by
    obtain ⟨p, h1, h2⟩ := h
    exact ⟨p, h1, m _ _ h2⟩

/-- objects that are still changed -/
class MRep (α : Type) where
  orel : PySem.W.Frag → Hp → HO → α → Prop
  mono : ∀ {K : PySem.W.Frag} {H H' : Hp} {o : HO} {a : α}, Ex H H' → orel K H o a → orel K H' o a
structure ML (α : Type) where
  xs : List α
instance {α : Type} [Rep α] : MRep (ML α) := ⟨fun K H o m => ∃ vs, o = .lst vs ∧ Paired (fun v x => rel K H v x) vs m.xs, fun e ⟨vs, h1, h2⟩ => ⟨vs, h1, pmono (fun _ _ h => Rep.mono e h) h2⟩⟩

/-! ### slots -/
inductive SV : Type 1
  | any
  | imm {α : Type} [r : Rep α] (a : α)
  | mut {α : Type} [r : MRep α] (a : α)
def SV.isMut : SV → Prop
  | @SV.mut _ _ _ => True
  | _ => False
def SV.sat (K : PySem.W.Frag) (We W : Wd) : SV → Option (Option V) → Prop
  | .any, _ => True
  | @SV.imm _ r a, o => ∃ v, o = some (some v) ∧ r.rel K W.s v a
  | @SV.mut _ r a, o => ∃ (l : Addr) (ob : HO), o = some (some (V.ref l)) ∧ We.h l = none ∧ W.s l = none ∧ W.h l = some ob ∧ r.orel K W.s ob a
structure SR (K : PySem.W.Frag) (We : Wd) (B : Hp) (ρ : List SV) (σ : L2.St) (W : Wd) : Prop where
  le : We.Le W
  b : Ex B W.s
  len : σ.length = ρ.length
  at_ : ∀ (i : Nat) (x : SV), ρ[i]? = some x → x.sat K We W σ[i]?
  sep : ∀ (i j : Nat) (x y : SV) (l : Addr), i ≠ j → ρ[i]? = some x → ρ[j]? = some y → x.isMut → y.isMut → σ[i]? = some (some (.ref l)) → σ[j]? = some (some (.ref l)) → False
section
variable {K : PySem.W.Frag} {We W W' : Wd} {B : Hp} {ρ : List SV} {σ : L2.St}
theorem SV.sat_mono {x : SV} {o : Option (Option V)} (h : x.sat K We W o) (le : W.Le W') : x.sat K We W' o := by
  match x, h with
  | .any, _ => trivial
  | @SV.imm _ i a, ⟨v, e, r⟩ => exact ⟨v, e, i.mono le.s r⟩
  | @SV.mut _ i a, ⟨l, ob, e, n, s, hh, r⟩ => exact ⟨l, ob, e, n, le.f l (ne_none_of hh) s, le.h _ _ hh, i.mono le.s r⟩
theorem SR.mono (S : SR K We B ρ σ W) (le : W.Le W') : SR K We B ρ σ W' :=
  ⟨S.le.trans le, S.b.trans le.s, S.len, fun i x h => SV.sat_mono (S.at_ i x h) le, S.sep⟩
theorem SR.imm {α : Type} [Rep α] {i : Nat} {a : α} (S : SR K We B ρ σ W) (h : ρ[i]? = some (.imm a)) : ∃ v, σ[i]? = some (some v) ∧ rel K W.s v a := S.at_ i _ h
theorem SR.rebase {B' : Hp} (S : SR K We B ρ σ W) (h : Ex B' W.s) : SR K We B' ρ σ W := ⟨S.le, h, S.len, S.at_, S.sep⟩
theorem get_set_cases {α : Type _} {l : List α} {i j : Nat} {a x : α} (h : (l.set i a)[j]? = some x) : (j = i ∧ x = a ∧ i < l.length) ∨ (j ≠ i ∧ l[j]? = some x) := by
  by_cases e : i = j
  · subst e
    rw [List.getElem?_set] at h
    simp only [if_true] at h
    split at h
    · rename_i hl
      exact .inl ⟨rfl, (Option.some.inj h).symm, hl⟩
    · cases h
  · rw [List.getElem?_set_ne e] at h
    exact .inr ⟨fun z => e z.symm, h⟩
/-- a slot that now holds a settled value, or anything -/
theorem SR.put (S : SR K We B ρ σ W) (le : W.Le W') {i : Nat} {x : SV} {o : Option V} (nm : ¬ x.isMut) (hx : i < ρ.length → x.sat K We W' (some o)) : SR K We B (ρ.set i x) (σ.set i o) W' := by
  have S' := S.mono le
  refine ⟨S'.le, S'.b, by rw [List.length_set, List.length_set]; exact S.len, fun j y h => ?_, fun j k y z l hjk hj hk mj mk ej ek => ?_⟩
  · rcases get_set_cases h with ⟨rfl, rfl, hl⟩ | ⟨hne, h2⟩
    · rw [List.getElem?_set_self (by rw [S.len]; exact hl)]
      exact hx hl
    · rw [List.getElem?_set_ne (fun z => hne z.symm)]
      exact S'.at_ j y h2
  · rcases get_set_cases hj with ⟨rfl, rfl, hl⟩ | ⟨hne, h2⟩
    · exact nm mj
    · rcases get_set_cases hk with ⟨rfl, rfl, hl⟩ | ⟨hne', h3⟩
      · exact nm mk
      · rw [List.getElem?_set_ne (fun z => hne z.symm)] at ej
        rw [List.getElem?_set_ne (fun z => hne' z.symm)] at ek
        exact S.sep j k y z l hjk h2 h3 mj mk ej ek
theorem SR.set {α : Type} [Rep α] (S : SR K We B ρ σ W) (le : W.Le W') {i : Nat} {v : V} {a : α} (r : rel K W'.s v a) : SR K We B (ρ.set i (.imm a)) (σ.set i (some v)) W' :=
  S.put le (fun z => z) fun _ => ⟨v, rfl, r⟩
theorem SR.setAny (S : SR K We B ρ σ W) (le : W.Le W') {i : Nat} {o : Option V} : SR K We B (ρ.set i .any) (σ.set i o) W' := S.put le (fun z => z) fun _ => trivial
/-- weaker slots -/
def SV.le : SV → SV → Prop
  | _, .any => True
  | x, y => x = y
inductive Wk : List SV → List SV → Prop
  | nil : Wk [] []
  | same {x : SV} {xs ys : List SV} : Wk xs ys → Wk (x :: xs) (x :: ys)
  | any {x : SV} {xs ys : List SV} : Wk xs ys → Wk (x :: xs) (.any :: ys)
theorem Wk.len {a b : List SV} (h : Wk a b) : a.length = b.length := by
  induction h with
  | nil => rfl
  | same _ ih => exact congrArg Nat.succ ih
  | any _ ih => exact congrArg Nat.succ ih
theorem Wk.get {a b : List SV} (h : Wk a b) : ∀ {i : Nat} {y : SV}, b[i]? = some y → y = .any ∨ a[i]? = some y := by
  induction h with
  | nil => intro i y e; simp at e
  | same _ ih =>
    intro i y e
    cases i with
    | zero => exact .inr e
    | succ i => exact ih (i := i) e
  | any _ ih =>
    intro i y e
    cases i with
    | zero => exact .inl (Option.some.inj e).symm
    | succ i => exact ih (i := i) e
theorem Wk.refl : ∀ a : List SV, Wk a a
  | [] => .nil
  | _ :: r => .same (Wk.refl r)
theorem SR.wk {ρ' : List SV} (S : SR K We B ρ σ W) (h : Wk ρ ρ') : SR K We B ρ' σ W := by
  refine ⟨S.le, S.b, S.len.trans h.len, fun i y e => ?_, fun j k y z l hjk hj hk mj mk ej ek => ?_⟩
  · rcases h.get e with rfl | e2
    · trivial
    · exact S.at_ i y e2
  · rcases h.get hj with rfl | e2
    · exact mj.elim
    · rcases h.get hk with rfl | e3
      · exact mk.elim
      · exact S.sep j k y z l hjk e2 e3 mj mk ej ek
end

/-! ### the weakest readings -/
section
variable {X : Cx}
abbrev RunE (X : Cx) (e : Expr) : TE := fun σ H Q => ∀ (pins : List (Addr × Obj)) (s : Shared), Inv X pins σ H s → wpAny (model X.prog X.w) X.A (eval e X.env) (EP X pins σ Q) X.xe s
abbrev RunT (X : Cx) (e : Expr) : TT := fun σ H Q => ∀ (pins : List (Addr × Obj)) (s : Shared), Inv X pins σ H s → wpAny (model X.prog X.w) X.A (isTrue e X.env (eval e X.env)) (TP X pins σ Q) X.xe s
abbrev RunW (X : Cx) (e : Expr) : TT := fun σ H Q => ∀ (whole : Sem Value) (pins : List (Addr × Obj)) (s : Shared), Inv X pins σ H s → wpAny (model X.prog X.w) X.A (isTrue e X.env whole) (TP X pins σ Q) X.xe s
abbrev RunS (X : Cx) (st : Stmt) : TS := fun D σ H => ∀ (pins : List (Addr × Obj)) (s : Shared), Inv X pins σ H s → wpAny (model X.prog X.w) X.A (exec st X.env) (SP X pins D) X.xe s
abbrev RunSs (X : Cx) (st : List Stmt) : TS := fun D σ H => ∀ (pins : List (Addr × Obj)) (s : Shared), Inv X pins σ H s → wpAny (model X.prog X.w) X.A (execs st X.env) (SP X pins D) X.xe s
theorem pe_run {e : Expr} : PE X e (RunE X e) := ⟨fun pins s _ _ _ I h => h pins s I⟩
theorem pt_run {e : Expr} : PT X e (RunT X e) := ⟨fun pins s _ _ _ I h => h pins s I⟩
theorem pw_run {e : Expr} : PW X e (RunW X e) := ⟨fun w pins s _ _ _ I h => h w pins s I⟩
theorem ps_run {st : Stmt} : PS X st (RunS X st) := ⟨fun pins s _ _ _ I h => h pins s I⟩
theorem pss_run {st : List Stmt} : PSs X st (RunSs X st) := ⟨fun pins s _ _ _ I h => h pins s I⟩
theorem useE {e : Expr} {t : TE} {σ : L2.St} {H : Hp} {Q : VK} (p : PE X e t) (h : t σ H Q) : RunE X e σ H Q := fun pins s I => p.run pins s σ H Q I h
theorem useT {e : Expr} {t : TT} {σ : L2.St} {H : Hp} {Q : Bool → Hp → Prop} (p : PT X e t) (h : t σ H Q) : RunT X e σ H Q := fun pins s I => p.run pins s σ H Q I h
theorem useW {e : Expr} {t : TT} {σ : L2.St} {H : Hp} {Q : Bool → Hp → Prop} (p : PW X e t) (h : t σ H Q) : RunW X e σ H Q := fun w pins s I => p.run w pins s σ H Q I h
theorem useS {st : Stmt} {t : TS} {σ : L2.St} {H : Hp} {D : Ends} (p : PS X st t) (h : t D σ H) : RunS X st D σ H := fun pins s I => p.run pins s σ H D I h
theorem useSs {st : List Stmt} {t : TS} {σ : L2.St} {H : Hp} {D : Ends} (p : PSs X st t) (h : t D σ H) : RunSs X st D σ H := fun pins s I => p.run pins s σ H D I h
end

/-! ### expressions -/
/-- e computes o, where o is some -/
structure Ep (X : Cx) (ρ : List SV) (e : Expr) {α : Type} [Rep α] (o : Option α) : Prop where
  run : ∀ a, o = some a → ∀ (We : Wd) (B : Hp) (σ : L2.St) (W : Wd) (Q : VK), SR X.K We B ρ σ W → (∀ v W', W.Le W' → rel X.K W'.s v a → Q v W'.h) → RunE X e σ W.h Q
/-- .. a new list -/
structure EpF (X : Cx) (ρ : List SV) (e : Expr) {α : Type} [Rep α] (o : Option (List α)) : Prop where
  run : ∀ a, o = some a → ∀ (We : Wd) (B : Hp) (σ : L2.St) (W : Wd) (Q : VK), SR X.K We B ρ σ W → (∀ p vs W', W.Le W' → W.h p = none → W'.s p = some (.lst vs) → Paired (fun v x => rel X.K W'.s v x) vs a → Q (.ref p) W'.h) → RunE X e σ W.h Q
/-- .. a list that may be read (settled or not) -/
structure Lp (X : Cx) (ρ : List SV) (e : Expr) {α : Type} [Rep α] (o : Option (List α)) : Prop where
  run : ∀ a, o = some a → ∀ (We : Wd) (B : Hp) (σ : L2.St) (W : Wd) (Q : VK), SR X.K We B ρ σ W → (∀ p vs W', W.Le W' → W'.h p = some (.lst vs) → Paired (fun v x => rel X.K W'.s v x) vs a → Q (.ref p) W'.h) → RunE X e σ W.h Q
/-- a test -/
structure Tp (X : Cx) (ρ : List SV) (e : Expr) (o : Option Bool) : Prop where
  run : ∀ a, o = some a → ∀ (We : Wd) (B : Hp) (σ : L2.St) (W : Wd) (Q : Bool → Hp → Prop), SR X.K We B ρ σ W → (∀ W', W.Le W' → Q a W'.h) → RunT X e σ W.h Q
structure Wp (X : Cx) (ρ : List SV) (e : Expr) (o : Option Bool) : Prop where
  run : ∀ a, o = some a → ∀ (We : Wd) (B : Hp) (σ : L2.St) (W : Wd) (Q : Bool → Hp → Prop), SR X.K We B ρ σ W → (∀ W', W.Le W' → Q a W'.h) → RunW X e σ W.h Q
section
variable {X : Cx} {ρ : List SV} {pos : Pos} {e a b c : Expr}
theorem EpF.ep {α : Type} [Rep α] {o : Option (List α)} (h : EpF X ρ e o) : Ep X ρ e o := .mk fun x hx We B σ W Q S k => h.run x hx We B σ W Q S fun p vs W' le _ hp r => k _ W' le ⟨p, vs, rfl, hp, r⟩
theorem Ep.lp {α : Type} [Rep α] {o : Option (List α)} (h : Ep X ρ e o) : Lp X ρ e o := .mk fun x hx We B σ W Q S k => h.run x hx We B σ W Q S fun v W' le ⟨p, vs, e1, e2, r⟩ => by
  subst e1
  exact k p vs W' le (W'.e _ _ e2) r
theorem EpF.lp {α : Type} [Rep α] {o : Option (List α)} (h : EpF X ρ e o) : Lp X ρ e o := h.ep.lp
theorem Ep.of_eq {α : Type} [Rep α] {o o' : Option α} (h : Ep X ρ e o) (q : o' = o) : Ep X ρ e o' := by rw [q]; exact h

theorem ep_var {α : Type} [Rep α] (i : Nat) {x : Str} {p : α} (hρ : ρ[i]? = some (.imm p) := by rfl) (hN : X.N[i]? = some x := by rfl) (hv : Vis X.env.scope x := by first | exact Or.inl rfl | exact Or.inr (Or.inl rfl) | exact Or.inr (Or.inr rfl)) (hd : (x == ("__debug__" : Str)) = false := by decide)
    (hcd : (x == ("__classdict__" : Str)) = false := by decide) : Ep X ρ (.Name x pos) (some p) := .mk fun y hy We B σ W Q S k => by
  cases hy
  obtain ⟨v, hv1, hv2⟩ := S.imm hρ
  exact useE (pe_var hN hv hd hcd) ⟨v, hv1, k v W (.refl W) hv2⟩
/-- a list that is still changed, read -/
theorem lp_var {α : Type} [Rep α] (i : Nat) {x : Str} {m : ML α} (hρ : ρ[i]? = some (.mut m) := by rfl) (hN : X.N[i]? = some x := by rfl) (hv : Vis X.env.scope x := by first | exact Or.inl rfl | exact Or.inr (Or.inl rfl) | exact Or.inr (Or.inr rfl)) (hd : (x == ("__debug__" : Str)) = false := by decide)
    (hcd : (x == ("__classdict__" : Str)) = false := by decide) : Lp X ρ (.Name x pos) (some m.xs) := .mk fun y hy We B σ W Q S k => by
  cases hy
  obtain ⟨l, ob, e1, _, _, hh, vs, rfl, r⟩ := S.at_ i _ hρ
  exact useE (pe_var hN hv hd hcd) ⟨_, e1, k l vs W (.refl W) hh r⟩
theorem ep_int {i : Int} {j} : Ep X ρ (.Constant (.int i) j pos) (some i) := .mk fun y hy We B σ W Q S k => by
  cases hy
  exact useE pe_int (k _ W (.refl W) rfl)
theorem ep_bl {i : Bool} {j} : Ep X ρ (.Constant (.bool i) j pos) (some i) := .mk fun y hy We B σ W Q S k => by
  cases hy
  exact useE pe_bl (k _ W (.refl W) rfl)
theorem ep_non {j} : Ep X ρ (.Constant .none j pos) (some ()) := .mk fun y hy We B σ W Q S k => by
  cases hy
  exact useE pe_non (k _ W (.refl W) rfl)
theorem ep_str {x : Str} {j} : Ep X ρ (.Constant (.str x) j pos) (some x) := .mk fun y hy We B σ W Q S k => by
  cases hy
  exact useE pe_str (k _ W (.refl W) rfl)
/-- as an Option -/
theorem Ep.opt {α : Type} [Rep α] {o : Option α} (h : Ep X ρ e o) : Ep X ρ e (o.map some) := .mk fun y hy We B σ W Q S k => by
  cases o with
  | none => cases hy
  | some a =>
    cases hy
    exact h.run a rfl We B σ W Q S k
theorem ep_nonO {α : Type} [Rep α] {j} : Ep X ρ (.Constant .none j pos) (some (none : Option α)) := .mk fun y hy We B σ W Q S k => by
  cases hy
  exact useE pe_non (k _ W (.refl W) rfl)

/-! operators -/
def bind2 {α β γ : Type} (oa : Option α) (ob : Option β) (f : α → β → Option γ) : Option γ := oa.bind fun x => ob.bind fun y => f x y
theorem bind_some {α : Type _} {γ : Type _} {oa : Option α} {f : α → Option γ} {z : γ} (h : oa.bind f = some z) : ∃ x, oa = some x ∧ f x = some z := by
  cases oa with
  | none => cases h
  | some x => exact ⟨x, rfl, h⟩
theorem bind2_some {α β γ : Type} {oa : Option α} {ob : Option β} {f : α → β → Option γ} {z : γ} (h : bind2 oa ob f = some z) : ∃ x y, oa = some x ∧ ob = some y ∧ f x y = some z := by
  obtain ⟨x, hx, h⟩ := bind_some h
  obtain ⟨y, hy, h⟩ := bind_some h
  exact ⟨x, y, hx, hy, h⟩
/-- what a rule by values must give -/
def OpV (X : Cx) (r : R2) {α β γ : Type} [Rep α] [Rep β] [Rep γ] (f : α → β → Option γ) : Prop :=
  ∀ x y z (W : Wd) v u (Q : VK), f x y = some z → rel X.K W.s v x → rel X.K W.s u y → (∀ v' W', W.Le W' → rel X.K W'.s v' z → Q v' W'.h) → r v u W.h Q
theorem ep_t2 {α β γ : Type} [Rep α] [Rep β] [Rep γ] {oa : Option α} {ob : Option β} {f : α → β → Option γ} {r : R2} {e : Expr} (p : PE X e (tOp r (RunE X a) (RunE X b))) (ha : Ep X ρ a oa) (hb : Ep X ρ b ob) (hr : OpV X r f) :
    Ep X ρ e (bind2 oa ob f) := .mk fun z hz We B σ W Q S k => by
  obtain ⟨x, y, hx, hy, hf⟩ := bind2_some hz
  refine useE p (ha.run x hx We B σ W _ S fun v W1 l1 r1 => hb.run y hy We B σ W1 _ (S.mono l1) fun u W2 l2 r2 => ?_)
  exact hr x y z W2 v u Q hf (Rep.mono l2.s r1) r2 fun v' W' l3 r3 => k v' W' ((l1.trans l2).trans l3) r3
theorem ep_bin {op : Operator} {α β γ : Type} [Rep α] [Rep β] [Rep γ] {oa : Option α} {ob : Option β} {f : α → β → Option γ} {r : R2} (ho : OpR X (binaryOp op) r) (hr : OpV X r f) (ha : Ep X ρ a oa) (hb : Ep X ρ b ob) :
    Ep X ρ (.BinOp a op b pos) (bind2 oa ob f) := ep_t2 (pe_op ho pe_run pe_run) ha hb hr
/-- a comparison, as a value and as a test -/
structure Cq (X : Cx) (ρ : List SV) (op : CmpOp) (a b : Expr) (o : Option Bool) : Prop where
  e : ∀ pos, Ep X ρ (.Compare a [op] [b] pos) o
  t : ∀ pos, Tp X ρ (.Compare a [op] [b] pos) o
theorem cq_mk {op : CmpOp} {α β : Type} [Rep α] [Rep β] {oa : Option α} {ob : Option β} {f : α → β → Option Bool} {r : R2} (ho : OpR X (compareOp op) r) (hm : behindInMarks op b = false) (hr : OpV X r f) (ha : Ep X ρ a oa) (hb : Ep X ρ b ob) :
    Cq X ρ op a b (bind2 oa ob f) := ⟨fun pos => ep_t2 (pe_cmpR ho pe_run pe_run hm) ha hb hr, fun pos => .mk fun z hz We B σ W Q S k => by
  obtain ⟨x, y, hx, hy, hf⟩ := bind2_some hz
  refine useT (pt_cmpR ho pe_run pe_run hm) (ha.run x hx We B σ W _ S fun v W1 l1 r1 => hb.run y hy We B σ W1 _ (S.mono l1) fun u W2 l2 r2 => ?_)
  exact hr x y z W2 v u _ hf (Rep.mono l2.s r1) r2 fun v' W' l3 r3 => ⟨z, r3, k W' ((l1.trans l2).trans l3)⟩⟩
theorem opv_I0 {g : Int → Int → Int} : OpV X (rI0 fun i j => .int (g i j)) (fun i j => some (g i j)) := fun x y z W v u Q hf h1 h2 k => by
  cases hf
  exact ⟨x, y, h1, h2, k _ W (.refl W) rfl⟩
theorem opv_B0 {g : Int → Int → Bool} : OpV X (rI0 fun i j => .bl (g i j)) (fun i j => some (g i j)) := fun x y z W v u Q hf h1 h2 k => by
  cases hf
  exact ⟨x, y, h1, h2, k _ W (.refl W) rfl⟩
theorem opv_I {C : Int → Int → Prop} {c : Int → Int → Bool} (hc : ∀ i j, c i j = true → C i j) {g : Int → Int → Int} : OpV X (rI C fun i j => .int (g i j)) (fun i j => if c i j then some (g i j) else none) := fun x y z W v u Q hf h1 h2 k => by
  dsimp only at hf
  split at hf
  · rename_i h
    cases hf
    exact ⟨x, y, h1, h2, hc _ _ h, k _ W (.refl W) rfl⟩
  · cases hf
def oadd (x y : Option Int) : Option Int := bind2 x y fun i j => some (i + j)
def osub (x y : Option Int) : Option Int := bind2 x y fun i j => some (i - j)
/-- numbers that are surely small enough to be multiplied -/
def smallI (i : Int) : Bool := decide (i.natAbs < 2 ^ 600)
def mulOk (i j : Int) : Bool := (decide (-(2 ^ 64) < i) && decide (i < 2 ^ 64)) || (decide (-(2 ^ 64) < j) && decide (j < 2 ^ 64)) || (smallI i && smallI j)
def omul (x y : Option Int) : Option Int := bind2 x y fun i j => if mulOk i j then some (i * j) else none
def divOk (_ j : Int) : Bool := decide (j ≠ 0) && smallI j
def ofdiv (x y : Option Int) : Option Int := bind2 x y fun i j => if divOk i j then some (i.fdiv j) else none
theorem op_fdivX : OpR X (binaryOp .FloorDiv) (rI (fun _ j => j ≠ 0 ∧ j.natAbs.log2 < 9000) fun i j => .int (i.fdiv j)) := opI fun _ _ _ _ _ _ _ hc q => floordiv_int hc.1 q (.inl (PyProof.noPylong_of_log2 hc.2))
def omod (x y : Option Int) : Option Int := bind2 x y fun i j => if decide (0 < j) then some (i % j) else none
def powOk (i j : Int) : Bool := decide (0 ≤ j) && decide (j ≤ 1000) && decide (i.natAbs < 2 ^ 64)
def opow (x y : Option Int) : Option Int := bind2 x y fun i j => if powOk i j then some (i ^ j.toNat) else none
theorem log_small {i : Int} (h : smallI i = true) : i.natAbs.log2 < 601 := by
  have h1 : i.natAbs < 2 ^ 600 := of_decide_eq_true h
  by_cases e : i.natAbs = 0
  · rw [e]
    decide
  · have := (Nat.log2_lt e).mpr h1
    omega
theorem mulOk_ok {i j : Int} (h : mulOk i j = true) : CMul i j ∨ CMulW i j := by
  unfold mulOk at h
  simp only [Bool.or_eq_true, Bool.and_eq_true, decide_eq_true_eq] at h
  rcases h with (h | h) | h
  · exact .inl (.inl h)
  · exact .inl (.inr h)
  · refine .inr ?_
    have h1 := log_small h.1
    have h2 := log_small h.2
    show i.natAbs.log2 + j.natAbs.log2 < 1000000
    omega
theorem opv_mul : OpV X (fun x y H Q => rI CMul (fun i j => .int (i * j)) x y H Q ∨ rI CMulW (fun i j => .int (i * j)) x y H Q) (fun i j => if mulOk i j then some (i * j) else none) := fun x y z W v u Q hf h1 h2 k => by
  dsimp only at hf
  split at hf
  · rename_i h
    cases hf
    rcases mulOk_ok h with hc | hc
    · exact .inl ⟨x, y, h1, h2, hc, k _ W (.refl W) rfl⟩
    · exact .inr ⟨x, y, h1, h2, hc, k _ W (.refl W) rfl⟩
  · cases hf
theorem ep_add {oa ob : Option Int} (ha : Ep X ρ a oa) (hb : Ep X ρ b ob) : Ep X ρ (.BinOp a .Add b pos) (oadd oa ob) := ep_bin op_add opv_I0 ha hb
theorem ep_sub {oa ob : Option Int} (ha : Ep X ρ a oa) (hb : Ep X ρ b ob) : Ep X ρ (.BinOp a .Sub b pos) (osub oa ob) := ep_bin op_sub opv_I0 ha hb
theorem ep_mul {oa ob : Option Int} (ha : Ep X ρ a oa) (hb : Ep X ρ b ob) : Ep X ρ (.BinOp a .Mult b pos) (omul oa ob) := ep_bin (OpR.or op_mul op_mulW) opv_mul ha hb
theorem ep_fdiv {oa ob : Option Int} (ha : Ep X ρ a oa) (hb : Ep X ρ b ob) : Ep X ρ (.BinOp a .FloorDiv b pos) (ofdiv oa ob) := ep_bin op_fdivX (opv_I fun i j h => by
  unfold divOk at h
  simp only [Bool.and_eq_true, decide_eq_true_eq] at h
  exact ⟨h.1, Nat.lt_trans (log_small h.2) (by decide)⟩) ha hb
theorem ep_mod {oa ob : Option Int} (ha : Ep X ρ a oa) (hb : Ep X ρ b ob) : Ep X ρ (.BinOp a .Mod b pos) (omod oa ob) := ep_bin op_mod (opv_I fun i j h => of_decide_eq_true h) ha hb
theorem ep_pow {oa ob : Option Int} (ha : Ep X ρ a oa) (hb : Ep X ρ b ob) : Ep X ρ (.BinOp a .Pow b pos) (opow oa ob) := ep_bin op_pow (opv_I fun i j h => by
  unfold powOk at h
  simp only [Bool.and_eq_true, decide_eq_true_eq] at h
  exact ⟨h.1.1, by omega, h.2⟩) ha hb
def oneg (x : Option Int) : Option Int := x.bind fun i => some (-i)
theorem ep_neg {oa : Option Int} (ha : Ep X ρ a oa) : Ep X ρ (.UnaryOp .USub a pos) (oneg oa) := .mk fun z hz We B σ W Q S k => by
  obtain ⟨x, hx, hf⟩ := bind_some hz
  cases hf
  refine useE (pe_un un_neg pe_run) (ha.run x hx We B σ W _ S fun v W1 l1 r1 => ⟨x, r1, k _ W1 l1 rfl⟩)
def olt (x y : Option Int) : Option Bool := bind2 x y fun i j => some (decide (i < j))
def ole (x y : Option Int) : Option Bool := bind2 x y fun i j => some (decide (i ≤ j))
def ogt (x y : Option Int) : Option Bool := bind2 x y fun i j => some (decide (j < i))
def oge (x y : Option Int) : Option Bool := bind2 x y fun i j => some (decide (j ≤ i))
theorem cq_lt {oa ob : Option Int} (ha : Ep X ρ a oa) (hb : Ep X ρ b ob) : Cq X ρ .Lt a b (olt oa ob) := cq_mk op_lt (nomark _) opv_B0 ha hb
theorem cq_le {oa ob : Option Int} (ha : Ep X ρ a oa) (hb : Ep X ρ b ob) : Cq X ρ .LtE a b (ole oa ob) := cq_mk op_le (nomark _) opv_B0 ha hb
theorem cq_gt {oa ob : Option Int} (ha : Ep X ρ a oa) (hb : Ep X ρ b ob) : Cq X ρ .Gt a b (ogt oa ob) := cq_mk op_gt (nomark _) opv_B0 ha hb
theorem cq_ge {oa ob : Option Int} (ha : Ep X ρ a oa) (hb : Ep X ρ b ob) : Cq X ρ .GtE a b (oge oa ob) := cq_mk op_ge (nomark _) opv_B0 ha hb
/-- == and != of flat things -/
class Sc (α : Type) extends Rep α where
  val : α → V
  is : ∀ {K : PySem.W.Frag} {H : Hp} {v : V} {a : α}, rel K H v a → v = val a
  inj : ∀ {a b : α}, val a = val b → a = b
  sc : ∀ a b : α, scal (val a) (val b) = true
instance : Sc Int := ⟨V.int, fun h => h, fun h => V.int.inj h, fun _ _ => rfl⟩
instance : Sc Bool := ⟨V.bl, fun h => h, fun h => V.bl.inj h, fun _ _ => rfl⟩
instance : Sc Str := ⟨V.str, fun h => h, fun h => V.str.inj h, fun _ _ => rfl⟩
def oeq {α : Type} [DecidableEq α] (x y : Option α) : Option Bool := bind2 x y fun i j => some (decide (i = j))
def one_ {α : Type} [DecidableEq α] (x y : Option α) : Option Bool := bind2 x y fun i j => some (!decide (i = j))
theorem dec_val {α : Type} [Sc α] [DecidableEq α] (x y : α) : decide (Sc.val x = Sc.val y) = decide (x = y) := by
  by_cases h : x = y
  · rw [decide_eq_true h, h, decide_eq_true rfl]
  · rw [decide_eq_false h, decide_eq_false fun z => h (Sc.inj z)]
theorem cq_eqS {α : Type} [Sc α] [DecidableEq α] {oa ob : Option α} (ha : Ep X ρ a oa) (hb : Ep X ρ b ob) : Cq X ρ .Eq a b (oeq oa ob) := cq_mk op_eq (nomark _) (fun x y z W v u Q hf h1 h2 k => by
  cases hf
  rw [Sc.is h1, Sc.is h2]
  exact ⟨Sc.sc x y, k _ W (.refl W) (by rw [dec_val] <;> rfl)⟩) ha hb
theorem cq_neS {α : Type} [Sc α] [DecidableEq α] {oa ob : Option α} (ha : Ep X ρ a oa) (hb : Ep X ρ b ob) : Cq X ρ .NotEq a b (one_ oa ob) := cq_mk op_ne (nomark _) (fun x y z W v u Q hf h1 h2 k => by
  cases hf
  rw [Sc.is h1, Sc.is h2]
  exact ⟨Sc.sc x y, k _ W (.refl W) (by rw [dec_val] <;> rfl)⟩) ha hb

/-! tests -/
theorem tp_val {o : Option Bool} (h : Ep X ρ e o) (he : ∀ whole, isTrue e X.env whole = (do let v ← whole; standAt e.pos; holding [v] (truthy v)) := by intro _; rfl) : Tp X ρ e o := .mk fun z hz We B σ W Q S k =>
  useT (pt_val pe_run he) (h.run z hz We B σ W _ S fun v W1 l1 r1 => ⟨z, r1, k W1 l1⟩)
def onot (x : Option Bool) : Option Bool := x.bind fun b => some (!b)
def oand (x y : Option Bool) : Option Bool := x.bind fun b => if b then y else some false
def oor (x y : Option Bool) : Option Bool := x.bind fun b => if b then some true else y
theorem tp_not {o : Option Bool} (h : Tp X ρ a o) : Tp X ρ (.UnaryOp .Not a pos) (onot o) := .mk fun z hz We B σ W Q S k => by
  obtain ⟨x, hx, hf⟩ := bind_some hz
  cases hf
  exact useT (pt_not pt_run) (h.run x hx We B σ W _ S fun W1 l1 => k W1 l1)
theorem tp_w {o : Option Bool} (h : Wp X ρ e o) : Tp X ρ e o := .mk fun z hz We B σ W Q S k => useT pw_run.pt (h.run z hz We B σ W Q S k)
theorem wp_and1 {o : Option Bool} (h : Tp X ρ a o) : Wp X ρ (.BoolOp .And [a] pos) o := .mk fun z hz We B σ W Q S k => useW (pw_and1 pt_run) (h.run z hz We B σ W Q S k)
theorem wp_or1 {o : Option Bool} (h : Tp X ρ a o) : Wp X ρ (.BoolOp .Or [a] pos) o := .mk fun z hz We B σ W Q S k => useW (pw_or1 pt_run) (h.run z hz We B σ W Q S k)
theorem wp_and {oa ob : Option Bool} {rest : List Expr} (ha : Tp X ρ a oa) (hb : Wp X ρ (.BoolOp .And (b :: rest) pos) ob) : Wp X ρ (.BoolOp .And (a :: b :: rest) pos) (oand oa ob) := .mk fun z hz We B σ W Q S k => by
  obtain ⟨x, hx, hf⟩ := bind_some hz
  refine useW (pw_and pt_run pw_run) (ha.run x hx We B σ W _ S fun W1 l1 => ?_)
  cases x with
  | true => exact iteT (hb.run z hf We B σ W1 Q (S.mono l1) fun W2 l2 => k W2 (l1.trans l2))
  | false =>
    cases hf
    exact iteF (k W1 l1)
theorem wp_or {oa ob : Option Bool} {rest : List Expr} (ha : Tp X ρ a oa) (hb : Wp X ρ (.BoolOp .Or (b :: rest) pos) ob) : Wp X ρ (.BoolOp .Or (a :: b :: rest) pos) (oor oa ob) := .mk fun z hz We B σ W Q S k => by
  obtain ⟨x, hx, hf⟩ := bind_some hz
  refine useW (pw_or pt_run pw_run) (ha.run x hx We B σ W _ S fun W1 l1 => ?_)
  cases x with
  | false => exact iteF (hb.run z hf We B σ W1 Q (S.mono l1) fun W2 l2 => k W2 (l1.trans l2))
  | true =>
    cases hf
    exact iteT (k W1 l1)
/-! the same as values -/
theorem ep_one {op} {o : Option Bool} (h : Ep X ρ a o) : Ep X ρ (.BoolOp op [a] pos) o := .mk fun z hz We B σ W Q S k => useE (pe_one pe_run) (h.run z hz We B σ W Q S k)
theorem ep_and {oa ob : Option Bool} {rest : List Expr} (ha : Ep X ρ a oa) (hb : Ep X ρ (.BoolOp .And (b :: rest) pos) ob) : Ep X ρ (.BoolOp .And (a :: b :: rest) pos) (oand oa ob) := .mk fun z hz We B σ W Q S k => by
  obtain ⟨x, hx, hf⟩ := bind_some hz
  refine useE (pe_and pe_run pe_run) (ha.run x hx We B σ W _ S fun v W1 l1 r1 => ⟨x, r1, ?_⟩)
  cases x with
  | true => exact iteT (hb.run z hf We B σ W1 Q (S.mono l1) fun v W2 l2 => k v W2 (l1.trans l2))
  | false =>
    cases hf
    exact iteF (k _ W1 l1 rfl)
theorem ep_or {oa ob : Option Bool} {rest : List Expr} (ha : Ep X ρ a oa) (hb : Ep X ρ (.BoolOp .Or (b :: rest) pos) ob) : Ep X ρ (.BoolOp .Or (a :: b :: rest) pos) (oor oa ob) := .mk fun z hz We B σ W Q S k => by
  obtain ⟨x, hx, hf⟩ := bind_some hz
  refine useE (pe_or pe_run pe_run) (ha.run x hx We B σ W _ S fun v W1 l1 r1 => ⟨x, r1, ?_⟩)
  cases x with
  | false => exact iteF (hb.run z hf We B σ W1 Q (S.mono l1) fun v W2 l2 => k v W2 (l1.trans l2))
  | true =>
    cases hf
    exact iteT (k _ W1 l1 rfl)
theorem ep_not {oa : Option Bool} (ha : Ep X ρ a oa) : Ep X ρ (.UnaryOp .Not a pos) (onot oa) := .mk fun z hz We B σ W Q S k => by
  obtain ⟨x, hx, hf⟩ := bind_some hz
  cases hf
  exact useE (pe_not pe_run) (ha.run x hx We B σ W _ S fun v W1 l1 r1 => ⟨x, r1, k _ W1 l1 rfl⟩)
end
end T
/-! typed layer, second part: tuples, lists, targets, blocks, loops, calls -/
namespace T
open PySem PySem.Spec PyProof.Rows L2
open Evl (Ex)
open Rep (rel)

section
variable {X : Cx} {ρ : List SV} {pos : Pos} {e a b c d : Expr}
/-- not starred -/
def NS (X : Cx) (e : Expr) : Prop := ∀ es, starEach (e :: es) X.env = (false, eval e X.env) :: starEach es X.env
/-! ### tuples -/
def omk2 {α β : Type} (x : Option α) (y : Option β) : Option (α × β) := bind2 x y fun i j => some (i, j)
theorem ep_pair {α β : Type} [Rep α] [Rep β] {oa : Option α} {ob : Option β} {x1} (ha : Ep X ρ a oa) (hb : Ep X ρ b ob) (na : NS X a := by intro _; rfl) (nb : NS X b := by intro _; rfl) : Ep X ρ (.Tuple [a, b] x1 pos) (omk2 oa ob) := .mk fun z hz We B σ W Q S k => by
  obtain ⟨x, y, hx, hy, hf⟩ := bind2_some hz
  cases hf
  refine useE (pe_tup (pa_cons pe_run (pa_cons pe_run pa_nil (nb _)) (na _))) (ha.run x hx We B σ W _ S fun v W1 l1 r1 => hb.run y hy We B σ W1 _ (S.mono l1) fun u W2 l2 r2 => ⟨(by show 2 ≤ sizeLine; decide), fun p hp => ?_⟩)
  have l3 := Wd.Le.new W2 (.tup [v, u]) hp
  exact k (.ref p) (W2.new p (.tup [v, u])) ((l1.trans l2).trans l3) ⟨p, v, u, rfl, upd_same, Rep.mono l3.s (Rep.mono l2.s r1), Rep.mono l3.s r2⟩
def omk3 (x y z : Option Int) : Option Tri := x.bind fun i => y.bind fun j => z.bind fun k => some ⟨i, j, k⟩
theorem ep_tri {oa ob oc : Option Int} {x1} (ha : Ep X ρ a oa) (hb : Ep X ρ b ob) (hc : Ep X ρ c oc) (na : NS X a := by intro _; rfl) (nb : NS X b := by intro _; rfl) (nc : NS X c := by intro _; rfl) : Ep X ρ (.Tuple [a, b, c] x1 pos) (omk3 oa ob oc) := .mk fun z hz We B σ W Q S k => by
  obtain ⟨x, hx, hf⟩ := bind_some hz
  obtain ⟨y, hy, hf⟩ := bind_some hf
  obtain ⟨w, hw, hf⟩ := bind_some hf
  cases hf
  refine useE (pe_tup (pa_cons pe_run (pa_cons pe_run (pa_cons pe_run pa_nil (nc _)) (nb _)) (na _))) (ha.run x hx We B σ W _ S fun v W1 l1 r1 => hb.run y hy We B σ W1 _ (S.mono l1) fun u W2 l2 r2 => hc.run w hw We B σ W2 _ (S.mono (l1.trans l2)) fun t W3 l3 r3 => ⟨(by show 3 ≤ sizeLine; decide), fun p hp => ?_⟩)
  have l4 := Wd.Le.new W3 (.tup [v, u, t]) hp
  cases r1
  cases r2
  cases r3
  exact k (.ref p) (W3.new p _) (((l1.trans l2).trans l3).trans l4) ⟨p, rfl, upd_same⟩
theorem ix_tup_use {i : Int} {j} {σ : L2.St} {H : Hp} {Q : VK} (h : RunE X a σ H fun x H1 => ∃ p xs v, x = .ref p ∧ SqT X.K H1 p xs ∧ atI xs i = some v ∧ Q v H1) (hs : PlainIx (.Constant (.int i) j pos)) {pos' : Pos} : RunE X (.Subscript a (.Constant (.int i) j pos) pos') σ H Q :=
  useE (pe_ix ix_tup (⟨fun pins s σ H Q I h => h pins s I⟩ : PE X a (RunE X a)) pe_int hs) (fun pins s I => wpAny_mono (h pins s I) (fun u s' ⟨v, H', I', r, p, xs, w, e1, e2, e3, q⟩ => ⟨v, H', I', r, p, xs, i, w, e1, rfl, e2, e3, q⟩) fun _ _ z => z)
def ofst {α β : Type} (x : Option (α × β)) : Option α := x.bind fun p => some p.1
def osnd {α β : Type} (x : Option (α × β)) : Option β := x.bind fun p => some p.2
theorem ep_fst {α β : Type} [Rep α] [Rep β] {oa : Option (α × β)} {j} {p1 : Pos} (ha : Ep X ρ a oa) : Ep X ρ (.Subscript a (.Constant (.int 0) j p1) pos) (ofst oa) := .mk fun z hz We B σ W Q S k => by
  obtain ⟨x, hx, hf⟩ := bind_some hz
  cases hf
  refine ix_tup_use (ha.run x hx We B σ W _ S fun v W1 l1 ⟨p, y, w, e1, e2, r1, r2⟩ => ?_) (fun _ _ => rfl)
  exact ⟨p, [y, w], y, e1, .of (W1.e _ _ e2), rfl, k y W1 l1 r1⟩
theorem ep_snd {α β : Type} [Rep α] [Rep β] {oa : Option (α × β)} {j} {p1 : Pos} (ha : Ep X ρ a oa) : Ep X ρ (.Subscript a (.Constant (.int 1) j p1) pos) (osnd oa) := .mk fun z hz We B σ W Q S k => by
  obtain ⟨x, hx, hf⟩ := bind_some hz
  cases hf
  refine ix_tup_use (ha.run x hx We B σ W _ S fun v W1 l1 ⟨p, y, w, e1, e2, r1, r2⟩ => ?_) (fun _ _ => rfl)
  exact ⟨p, [y, w], w, e1, .of (W1.e _ _ e2), rfl, k w W1 l1 r2⟩
def otri (x : Option Tri) (i : Option Int) : Option Int := bind2 x i fun t i => atI [t.a, t.b, t.c] i
theorem atI_map {α β : Type} (f : α → β) (xs : List α) (i : Int) : atI (xs.map f) i = (atI xs i).map f := by
  unfold atI
  rw [List.length_map]
  cases ixN xs.length i with
  | none => rfl
  | some j =>
    show (xs.map f)[j]? = _
    rw [List.getElem?_map]
    rfl
theorem ep_trix {oa : Option Tri} {ob : Option Int} (ha : Ep X ρ a oa) (hb : Ep X ρ b ob) (hs : PlainIx b := by exact fun _ _ => rfl) : Ep X ρ (.Subscript a b pos) (otri oa ob) :=
  ep_t2 (pe_ix ix_tup pe_run pe_run hs) ha hb fun x y z W v u Q hf ⟨p, e1, e2⟩ h2 k => by
    cases h2
    refine ⟨p, _, y, V.int z, e1, rfl, .of (W.e _ _ e2), ?_, k _ W (.refl W) rfl⟩
    have h3 := atI_map V.int [x.a, x.b, x.c] y
    rw [hf] at h3
    exact h3

/-! ### lists -/
theorem pget {α β : Type} {F : α → β → Prop} : ∀ {l₁ : List α} {l₂ : List β} {j : Nat} {y : β}, Paired F l₁ l₂ → l₂[j]? = some y → ∃ x, l₁[j]? = some x ∧ F x y
  | _, _, j, y, .nil, h => by simp at h
  | _, _, 0, y, .cons r t, h => by
    simp at h
    subst h
    exact ⟨_, rfl, r⟩
  | _, _, j + 1, y, .cons r t, h => by
    obtain ⟨x, h1, h2⟩ := pget (j := j) (y := y) t (by simpa using h)
    exact ⟨x, by simpa using h1, h2⟩
theorem plen {α β : Type} {F : α → β → Prop} {l₁ : List α} {l₂ : List β} (h : Paired F l₁ l₂) : l₁.length = l₂.length := Paired.length h
theorem papp {α β : Type} {F : α → β → Prop} : ∀ {l₁ l₁' : List α} {l₂ l₂' : List β}, Paired F l₁ l₂ → Paired F l₁' l₂' → Paired F (l₁ ++ l₁') (l₂ ++ l₂')
  | _, _, _, _, .nil, s => s
  | _, _, _, _, .cons r t, s => .cons r (papp t s)
theorem ptake {α β : Type} {F : α → β → Prop} : ∀ {l₁ : List α} {l₂ : List β} (n : Nat), Paired F l₁ l₂ → Paired F (l₁.take n) (l₂.take n)
  | _, _, 0, _ => .nil
  | _, _, _ + 1, .nil => .nil
  | _, _, n + 1, .cons r t => .cons r (ptake n t)
theorem pdrop {α β : Type} {F : α → β → Prop} : ∀ {l₁ : List α} {l₂ : List β} (n : Nat), Paired F l₁ l₂ → Paired F (l₁.drop n) (l₂.drop n)
  | _, _, 0, r => r
  | _, _, _ + 1, .nil => .nil
  | _, _, n + 1, .cons _ t => pdrop n t
theorem prev {α β : Type} {F : α → β → Prop} : ∀ {l₁ : List α} {l₂ : List β}, Paired F l₁ l₂ → Paired F l₁.reverse l₂.reverse
  | _, _, .nil => .nil
  | _, _, .cons r t => by
    rw [List.reverse_cons, List.reverse_cons]
    exact papp (prev t) (.cons r .nil)
theorem pat {α β : Type} {F : α → β → Prop} {l₁ : List α} {l₂ : List β} {i : Int} {y : β} (h : Paired F l₁ l₂) (e : atI l₂ i = some y) : ∃ x, atI l₁ i = some x ∧ F x y := by
  unfold atI at e ⊢
  rw [plen h]
  obtain ⟨j, hj, e2⟩ := bind_some e
  obtain ⟨x, h1, h2⟩ := pget h e2
  exact ⟨x, by rw [hj]; exact h1, h2⟩
def oidx {α : Type} (x : Option (List α)) (i : Option Int) : Option α := bind2 x i fun xs i => atI xs i
theorem ep_idx {α : Type} [Rep α] {oa : Option (List α)} {ob : Option Int} (ha : Lp X ρ a oa) (hb : Ep X ρ b ob) (hs : PlainIx b := by exact fun _ _ => rfl) : Ep X ρ (.Subscript a b pos) (oidx oa ob) := .mk fun z hz We B σ W Q S k => by
  obtain ⟨x, y, hx, hy, hf⟩ := bind2_some hz
  refine useE (pe_ix ix_list pe_run pe_run hs) (ha.run x hx We B σ W _ S fun p vs W1 l1 hp r1 => hb.run y hy We B σ W1 _ (S.mono l1) fun u W2 l2 r2 => ?_)
  obtain ⟨v, hv, rv⟩ := pat r1 hf
  exact ⟨p, vs, y, v, rfl, r2, .of (l2.h _ _ hp), hv, k v W2 (l1.trans l2) (Rep.mono l2.s rv)⟩
def olen {α : Type} (x : Option (List α)) : Option Int := x.bind fun xs => some xs.length
theorem ep_len {α : Type} [Rep α] {oa : Option (List α)} {p1 : Pos} (hg : Gl X "len") (hm : X.mg "len" = none) (ha : Lp X ρ a oa)
    (hst : NS X a := by intro _; rfl) : Ep X ρ (.Call (.Name "len" p1) [a] [] pos) (olen oa) := .mk fun z hz We B σ W Q S k => by
  obtain ⟨x, hx, hf⟩ := bind_some hz
  cases hf
  refine useE (pe_callB call_len_seq hg hm PySem.boot_len (pa_cons pe_run pa_nil (hst _)) (he := hst _)) (ha.run x hx We B σ W _ S fun p vs W1 l1 hp r1 => ?_)
  exact ⟨p, vs, rfl, .inl (.of hp), by rw [plen r1]; exact k _ W1 l1 rfl⟩
/-- sizes -/
def capOk (n : Nat) : Bool := decide (n ≤ 1000000)
theorem cap_line {n : Nat} (h : capOk n = true) : n ≤ sizeLine := Nat.le_trans (of_decide_eq_true h) (by decide)
theorem cap_lt {n : Nat} (h : capOk n = true) : n < sizeLine := Nat.lt_of_le_of_lt (of_decide_eq_true h) (by decide)
def cap {α : Type} (xs : List α) : Option (List α) := if capOk xs.length then some xs else none
theorem cap_some {α : Type} {xs ys : List α} (h : cap xs = some ys) : xs = ys ∧ capOk xs.length = true := by
  unfold cap at h
  split at h
  · rename_i hc
    cases h
    exact ⟨rfl, hc⟩
  · cases h
def ocat {α : Type} (x y : Option (List α)) : Option (List α) := bind2 x y fun a b => cap (a ++ b)
theorem ep_cat {α : Type} [Rep α] {oa ob : Option (List α)} (ha : Lp X ρ a oa) (hb : Lp X ρ b ob) : EpF X ρ (.BinOp a .Add b pos) (ocat oa ob) := .mk fun z hz We B σ W Q S k => by
  obtain ⟨x, y, hx, hy, hf⟩ := bind2_some hz
  obtain ⟨rfl, hc⟩ := cap_some hf
  refine useE (pe_op op_cat pe_run pe_run) (ha.run x hx We B σ W _ S fun p vs W1 l1 hp r1 => hb.run y hy We B σ W1 _ (S.mono l1) fun q us W2 l2 hq r2 => ?_)
  have r1' := pmono (fun _ _ h => Rep.mono l2.s h) r1
  refine ⟨p, q, vs, us, rfl, rfl, l2.h _ _ hp, hq, ?_, fun n hn => ?_⟩
  · rw [plen r1, plen r2, ← List.length_append]
    exact cap_line hc
  · have l3 := Wd.Le.new W2 (.lst (vs ++ us)) hn
    exact k n (vs ++ us) (W2.new n _) ((l1.trans l2).trans l3) (ex_back (l1.trans l2).h hn) upd_same (pmono (fun _ _ h => Rep.mono l3.s h) (papp r1' r2))
/-- displays: items of one kind -/
abbrev RunA (X : Cx) (es : List Expr) : TA := fun σ H Q => ∀ (pos : Pos) (pins : List (Addr × Obj)) (s : Shared), Inv X pins σ H s → wpAny (model X.prog X.w) X.A (spliced (backTo pos (starEach es X.env))) (AP X pins σ Q) X.xe s
theorem pa_run {es : List Expr} : PA X es (RunA X es) := ⟨fun pos pins s _ _ _ I h => h pos pins s I⟩
theorem useA {es : List Expr} {t : TA} {σ : L2.St} {H : Hp} {Q : List V → Hp → Prop} (p : PA X es t) (h : t σ H Q) : RunA X es σ H Q := fun pos pins s I => p.run pos pins s σ H Q I h
structure Al (X : Cx) (ρ : List SV) (es : List Expr) {α : Type} [Rep α] (o : Option (List α)) : Prop where
  run : ∀ a, o = some a → a.length = es.length ∧ ∀ (We : Wd) (B : Hp) (σ : L2.St) (W : Wd) (Q : List V → Hp → Prop), SR X.K We B ρ σ W → (∀ vs W', W.Le W' → Paired (fun v x => rel X.K W'.s v x) vs a → Q vs W'.h) → RunA X es σ W.h Q
theorem al_nil {α : Type} [Rep α] : Al X ρ [] (some ([] : List α)) := .mk fun z hz => by
  cases hz
  exact ⟨rfl, fun We B σ W Q S k => useA pa_nil (k [] W (.refl W) .nil)⟩
def ocons {α : Type} (x : Option α) (y : Option (List α)) : Option (List α) := bind2 x y fun a b => some (a :: b)
theorem al_cons {α : Type} [Rep α] {oa : Option α} {os : Option (List α)} {es : List Expr} (ha : Ep X ρ a oa) (hs : Al X ρ es os) (hst : NS X a := by intro _; rfl) : Al X ρ (a :: es) (ocons oa os) := .mk fun z hz => by
  obtain ⟨x, y, hx, hy, hf⟩ := bind2_some hz
  cases hf
  refine ⟨congrArg Nat.succ (hs.run y hy).1, fun We B σ W Q S k => useA (pa_cons pe_run pa_run (hst _)) (ha.run x hx We B σ W _ S fun v W1 l1 r1 => (hs.run y hy).2 We B σ W1 _ (S.mono l1) fun us W2 l2 r2 => ?_)⟩
  exact k (v :: us) W2 (l1.trans l2) (.cons (Rep.mono l2.s r1) r2)
theorem ep_lst {α : Type} [Rep α] {es : List Expr} {o : Option (List α)} (h : Al X ρ es o) (hl : Nat.ble es.length 1000 = true := by rfl) : EpF X ρ (.List es pos) o := .mk fun z hz We B σ W Q S k => by
  obtain ⟨h1, h2⟩ := h.run z hz
  refine useE (pe_lst pa_run) (h2 We B σ W _ S fun vs W1 l1 r1 => ⟨?_, fun p hp => ?_⟩)
  · rw [plen r1, h1]
    exact Nat.le_trans (Nat.le_of_ble_eq_true hl) (by decide)
  · have l2 := Wd.Le.new W1 (.lst vs) hp
    exact k p vs (W1.new p _) (l1.trans l2) (ex_back l1.h hp) upd_same (pmono (fun _ _ h => Rep.mono l2.s h) r1)
/-- slices of lists -/
def cutL {α : Type} (xs : List α) (lo hi : Option Int) : List α := (xs.drop (HT.sIx xs.length 0 lo)).take (HT.sIx xs.length xs.length hi - HT.sIx xs.length 0 lo)
structure Pp (X : Cx) (ρ : List SV) (e : Option Expr) (o : Option (Option Int)) : Prop where
  ex : ∃ t, PO X e t ∧ ∀ a, o = some a → ∀ (We : Wd) (B : Hp) (σ : L2.St) (W : Wd) (Q : Option Int → Hp → Prop), SR X.K We B ρ σ W → (∀ W', W.Le W' → Q a W'.h) → t σ W.h Q
theorem pp_none : Pp X ρ none (some none) := .mk ⟨_, po_none, fun z hz We B σ W Q S k => by
  cases hz
  exact k W (.refl W)⟩
def osome (x : Option Int) : Option (Option Int) := x.bind fun i => some (some i)
theorem pp_some {o : Option Int} (h : Ep X ρ e o) : Pp X ρ (some e) (osome o) := .mk ⟨_, po_some pe_run, fun z hz We B σ W Q S k => by
  obtain ⟨x, hx, hf⟩ := bind_some hz
  cases hf
  exact h.run x hx We B σ W _ S fun v W1 l1 r1 => ⟨x, r1, k W1 l1⟩⟩
theorem pcut {α β : Type} {F : α → β → Prop} {l₁ : List α} {l₂ : List β} (h : Paired F l₁ l₂) (lo hi : Option Int) : Paired F (cutL l₁ lo hi) (cutL l₂ lo hi) := by
  unfold cutL
  rw [plen h]
  exact ptake _ (pdrop _ h)
def ocut {α : Type} (x : Option (List α)) (lo hi : Option (Option Int)) : Option (List α) := x.bind fun xs => lo.bind fun i => hi.bind fun j => some (cutL xs i j)
theorem ep_cut {α : Type} [Rep α] {oa : Option (List α)} {lo hi : Option Expr} {ol oh : Option (Option Int)} {p2 : Pos} (ha : Lp X ρ a oa) (hl : Pp X ρ lo ol) (hh : Pp X ρ hi oh) : EpF X ρ (.Subscript a (.Slice lo hi none p2) pos) (ocut oa ol oh) := .mk fun z hz We B σ W Q S k => by
  obtain ⟨x, hx, hf⟩ := bind_some hz
  obtain ⟨i, hi', hf⟩ := bind_some hf
  obtain ⟨j, hj, hf⟩ := bind_some hf
  cases hf
  obtain ⟨tl, pl, kl⟩ := hl.ex
  obtain ⟨th, ph, kh⟩ := hh.ex
  refine useE (pe_slice sl_list pe_run pl ph) (ha.run x hx We B σ W _ S fun p vs W1 l1 hp r1 => ?_)
  refine kl i hi' We B σ W1 _ (S.mono l1) fun W2 l2 => kh j hj We B σ W2 _ (S.mono (l1.trans l2)) fun W3 l3 => ?_
  refine ⟨p, vs, rfl, .of (l3.h _ _ (l2.h _ _ hp)), fun n hn => ?_⟩
  have l123 := (l1.trans l2).trans l3
  have l4 := Wd.Le.new W3 (.lst (cutV vs i j)) hn
  exact k n (cutV vs i j) (W3.new n _) (l123.trans l4) (ex_back l123.h hn) upd_same (pmono (fun _ _ h => Rep.mono ((l2.trans l3).trans l4).s h) (pcut r1 i j))
end
end T
/-! typed layer, third part: blocks, loops, calls -/
namespace T
open PySem PySem.Spec PyProof.Rows L2
open Evl (Ex)
open Rep (rel)

/-- how a block ends -/
inductive Out (β γ : Type) where
  | ret (b : β)
  | go (g : γ)
  | cnt (g : γ)
  | exc (c : Nat)
def Acc (K : PySem.W.Frag) (xx : Nat → Hp → Prop) (We : Wd) (B : Hp) (fr : Bool) (D : Ends) {β γ : Type} [Rep β] (post : γ → List SV) : Out β γ → Prop
  | .ret b => ∀ v W', We.Le W' → Ex B W'.s → rel K W'.s v b → (fr = true → ∃ p, v = .ref p ∧ We.h p = none) → D.rt v W'.h
  | .go g => ∀ σ' W', SR K We B (post g) σ' W' → D.nx σ' W'.h
  | .cnt g => ∀ σ' W', SR K We B (post g) σ' W' → D.ct σ' W'.h
  | .exc c => ∀ W', We.Le W' → xx c W'.h
structure Bs (X : Cx) (xx : Nat → Hp → Prop) (ρ : List SV) (st : List Stmt) {β γ : Type} [Rep β] (fr : Bool) (m : Option (Out β γ)) (post : γ → List SV) : Prop where
  run : ∀ out, m = some out → ∀ (We : Wd) (B : Hp) (σ : L2.St) (W : Wd) (D : Ends), SR X.K We B ρ σ W → Acc X.K xx We B fr D post out → RunSs X st D σ W.h
section
variable {X : Cx} {ρ : List SV} {pos : Pos} {e a b c d : Expr} {rest st : List Stmt} {xx : Nat → Hp → Prop} {β γ : Type} [Rep β] {fr : Bool} {post : γ → List SV}

theorem bs_go {g : γ} (h : Wk ρ (post g)) : Bs X xx ρ [] (β := β) fr (some (.go g)) post := .mk fun out ho We B σ W D S k => by
  cases ho
  exact useSs pss_nil (k σ W (S.wk h))
theorem bs_cnt {g : γ} (h : Wk ρ (post g)) : Bs X xx ρ (.Continue pos :: rest) (β := β) fr (some (.cnt g)) post := .mk fun out ho We B σ W D S k => by
  cases ho
  exact useSs (pss_cons ps_continue pss_run) (k σ W (S.wk h))
theorem bs_pass {m : Option (Out β γ)} (h : Bs X xx ρ rest fr m post) : Bs X xx ρ (.Pass pos :: rest) fr m post := .mk fun out ho We B σ W D S k =>
  useSs (pss_cons ps_pass pss_run) (h.run out ho We B σ W D S k)
def oret {α γ : Type} (o : Option α) : Option (Out α γ) := o.bind fun x => some (.ret x)
theorem bs_ret {o : Option β} (h : Ep X ρ e o) : Bs X xx ρ (.Return (some e) pos :: rest) (γ := γ) false (oret o) post := .mk fun out ho We B σ W D S k => by
  obtain ⟨x, hx, hf⟩ := bind_some ho
  cases hf
  exact useSs (pss_cons (ps_ret pe_run) pss_run) (h.run x hx We B σ W _ S fun v W1 l1 r1 => k v W1 (S.le.trans l1) (S.b.trans l1.s) r1 fun z => by cases z)
theorem bs_retF {α : Type} [Rep α] {o : Option (List α)} {post : γ → List SV} (h : EpF X ρ e o) : Bs X xx ρ (.Return (some e) pos :: rest) (γ := γ) fr (oret o) post := .mk fun out ho We B σ W D S k => by
  obtain ⟨x, hx, hf⟩ := bind_some ho
  cases hf
  exact useSs (pss_cons (ps_ret pe_run) pss_run) (h.run x hx We B σ W _ S fun p vs W1 l1 hn hp r1 => k _ W1 (S.le.trans l1) (S.b.trans l1.s) ⟨p, vs, rfl, hp, r1⟩ fun _ => ⟨p, rfl, ex_back S.le.h hn⟩)
/-- a list that was changed till now is handed back -/
theorem SR.freeze {K : PySem.W.Frag} {We W : Wd} {B : Hp} {ρ : List SV} {σ : L2.St} {α : Type} [Rep α] {i : Nat} {m : ML α} (S : SR K We B ρ σ W) (h : ρ[i]? = some (.mut m)) :
    ∃ l vs W', σ[i]? = some (some (.ref l)) ∧ We.h l = none ∧ W'.h = W.h ∧ W'.s l = some (.lst vs) ∧ Paired (fun v x => rel K W'.s v x) vs m.xs ∧ SR K We B (ρ.set i (.imm m.xs)) σ W' := by
  obtain ⟨l, ob, e1, n1, n2, hh, vs, rfl, r⟩ := S.at_ i _ h
  have ex : Ex W.s (upd W.s l (.lst vs)) := Ex.new n2
  have r' := pmono (fun _ _ h => Rep.mono ex h) r
  refine ⟨l, vs, ⟨upd W.s l (.lst vs), W.h, fun p o q => ?_⟩, e1, n1, rfl, upd_same, r', ?_⟩
  · by_cases hp : p = l
    · subst hp
      rw [upd_same] at q
      cases q
      exact hh
    · rw [upd_ne hp] at q
      exact W.e p o q
  · have hi : i < ρ.length := (List.getElem?_eq_some_iff.mp h).1
    refine ⟨⟨S.le.s.trans ex, S.le.h, fun p h1 h2 => ?_⟩, S.b.trans ex, by rw [List.length_set]; exact S.len, fun j y hj => ?_, fun j k y z l' hjk hj hk mj mk ej ek => ?_⟩
    · show upd W.s l (.lst vs) p = none
      rw [upd_ne (fun z => h1 (by rw [z]; exact n1))]
      exact S.le.f p h1 h2
    · rcases get_set_cases hj with ⟨rfl, rfl, hl⟩ | ⟨hne, h2⟩
      · exact ⟨.ref l, e1, l, vs, rfl, upd_same, r'⟩
      · have s0 := S.at_ j y h2
        match y, s0 with
        | .any, _ => trivial
        | @SV.imm _ ii a, ⟨v, e, rr⟩ => exact ⟨v, e, ii.mono ex rr⟩
        | @SV.mut _ ii a, ⟨l', ob, e, n, s, hh', rr⟩ =>
          refine ⟨l', ob, e, n, ?_, hh', ii.mono ex rr⟩
          show upd W.s l (.lst vs) l' = none
          rw [upd_ne (fun z => ?_)]
          · exact s
          · subst z
            exact S.sep j i _ _ l' hne h2 h trivial trivial e e1
    · rcases get_set_cases hj with ⟨rfl, rfl, hl⟩ | ⟨hne, h2⟩
      · exact mj
      · rcases get_set_cases hk with ⟨rfl, rfl, hl⟩ | ⟨hne', h3⟩
        · exact mk
        · exact S.sep j k y z l' hjk h2 h3 mj mk ej ek
theorem bs_freeze {α : Type} [Rep α] {xs : ML α} {m : Option (Out β γ)} (i : Nat) (h : Bs X xx (ρ.set i (.imm xs.xs)) st fr m post) (hi : ρ[i]? = some (.mut xs) := by rfl) : Bs X xx ρ st fr m post := .mk fun out ho We B σ W D S k => by
  obtain ⟨l, vs, W', e1, n1, eh, _, _, S'⟩ := S.freeze hi
  have z := h.run out ho We B σ W' D S' k
  rw [eh] at z
  exact z
/-- x = e -/
theorem bs_asg {α : Type} [Rep α] {o : Option α} {f : α → Option (Out β γ)} {x : Str} {p1 : Pos} (i : Nat) (nd : X.N.Nodup) (he : Ep X ρ e o) (hr : ∀ a, Bs X xx (ρ.set i (.imm a)) rest fr (f a) post)
    (hi : X.N[i]? = some x := by rfl) (hx : Loc X.env.scope x := by first | exact Or.inl rfl | exact Or.inr rfl) (hs : swapsWith e (some (.Name x p1)) pos.line X.env = pure false := by rfl)
    (hf : X.fn x = true ∨ X.env.scope.names.lookup x = some .local := by first | exact .inl rfl | exact .inr rfl) : Bs X xx ρ (.Assign [.Name x p1] e pos :: rest) fr (o.bind f) post := .mk fun out ho We B σ W D S k => by
  obtain ⟨y, hy, hf'⟩ := bind_some ho
  refine useSs (pss_cons (ps_set nd hi hx pe_run hs hf) pss_run) (he.run y hy We B σ W _ S fun v W1 l1 r1 => ?_)
  exact (hr y).run out hf' We B _ W1 D (S.set l1 r1) k
/-- x = a new list that will be changed -/
theorem SR.newM {K : PySem.W.Frag} {We W W' : Wd} {B : Hp} {ρ : List SV} {σ : L2.St} {α : Type} [Flat α] {i : Nat} {p : Addr} {vs : List V} {xs : List α} (S : SR K We B ρ σ W) (le : W.Le W') (hn : W.h p = none) (hp : W'.s p = some (.lst vs))
    (r : Paired (fun v x => rel K W'.s v x) vs xs) : ∃ W'', W''.h = W'.h ∧ SR K We B (ρ.set i (.mut (ML.mk xs))) (σ.set i (some (.ref p))) W'' := by
  have hs : W.s p = none := ex_back W.e hn
  let s2 : Hp := fun q => if q = p then none else W'.s q
  have s2ne : ∀ {q}, q ≠ p → s2 q = W'.s q := fun {q} h => if_neg h
  have s2p : s2 p = none := if_pos rfl
  have e2 : Ex s2 W'.h := fun q o h => by
    by_cases hq : q = p
    · subst hq
      rw [s2p] at h
      cases h
    · rw [s2ne hq] at h
      exact W'.e q o h
  have exs : Ex W.s s2 := fun q o h => by
    rw [s2ne (fun z => by subst z; rw [hs] at h; cases h)]
    exact le.s q o h
  have le2 : W.Le ⟨s2, W'.h, e2⟩ := ⟨exs, le.h, fun q h1 h2 => by
    show s2 q = none
    rw [s2ne (fun z => h1 (by rw [z]; exact hn))]
    exact le.f q h1 h2⟩
  refine ⟨⟨s2, W'.h, e2⟩, rfl, ?_⟩
  have S2 := S.mono le2
  refine ⟨S2.le, S2.b, by rw [List.length_set, List.length_set]; exact S.len, fun j y h => ?_, fun j k y z l hjk hj hk mj mk ej ek => ?_⟩
  · rcases get_set_cases h with ⟨rfl, rfl, hl⟩ | ⟨hne, h2⟩
    · rw [List.getElem?_set_self (by rw [S.len]; exact hl)]
      refine ⟨p, .lst vs, rfl, ex_back S.le.h hn, s2p, W'.e _ _ hp, vs, rfl, pmono (fun v x h => ?_) r⟩
      refine Flat.minus (fun q ys hq => ?_) h
      show s2 q = _
      rw [s2ne (fun z => by subst z; rw [hp] at hq; cases hq)]
      exact hq
    · rw [List.getElem?_set_ne (fun z => hne z.symm)]
      exact S2.at_ j y h2
  · have fresh : ∀ {j : Nat} {y : SV}, y.isMut → ρ[j]? = some y → σ[j]? = some (some (.ref p)) → False := fun {j y} my hy ey => by
      have s0 := S.at_ j y hy
      match y, my, s0 with
      | @SV.mut _ ii a, _, ⟨l', ob, e, n, s, hh', rr⟩ =>
        rw [ey] at e
        cases e
        rw [hn] at hh'
        cases hh'
    rcases get_set_cases hj with ⟨rfl, rfl, hl⟩ | ⟨hne, h2⟩
    · rw [List.getElem?_set_self (by rw [S.len]; exact hl)] at ej
      cases ej
      rcases get_set_cases hk with ⟨rfl, rfl, hl'⟩ | ⟨hne', h3⟩
      · exact hjk rfl
      · rw [List.getElem?_set_ne (fun z => hne' z.symm)] at ek
        exact fresh mk h3 ek
    · rw [List.getElem?_set_ne (fun z => hne z.symm)] at ej
      rcases get_set_cases hk with ⟨rfl, rfl, hl'⟩ | ⟨hne', h3⟩
      · rw [List.getElem?_set_self (by rw [S.len]; exact hl')] at ek
        cases ek
        exact fresh mj h2 ej
      · rw [List.getElem?_set_ne (fun z => hne' z.symm)] at ek
        exact S.sep j k y z l hjk h2 h3 mj mk ej ek
theorem bs_asgM {α : Type} [Flat α] {o : Option (List α)} {f : List α → Option (Out β γ)} {x : Str} {p1 : Pos} (i : Nat) (nd : X.N.Nodup) (he : EpF X ρ e o) (hr : ∀ a, Bs X xx (ρ.set i (.mut (ML.mk a))) rest fr (f a) post)
    (hi : X.N[i]? = some x := by rfl) (hx : Loc X.env.scope x := by first | exact Or.inl rfl | exact Or.inr rfl) (hs : swapsWith e (some (.Name x p1)) pos.line X.env = pure false := by rfl)
    (hf : X.fn x = true ∨ X.env.scope.names.lookup x = some .local := by first | exact .inl rfl | exact .inr rfl) : Bs X xx ρ (.Assign [.Name x p1] e pos :: rest) fr (o.bind f) post := .mk fun out ho We B σ W D S k => by
  obtain ⟨y, hy, hf'⟩ := bind_some ho
  refine useSs (pss_cons (ps_set nd hi hx pe_run hs hf) pss_run) (he.run y hy We B σ W _ S fun p vs W1 l1 hn hp r1 => ?_)
  obtain ⟨W2, e2, S2⟩ := S.newM (i := i) l1 hn hp r1
  have z := (hr y).run out hf' We B _ W2 D S2 k
  rw [e2] at z
  exact z
/-- x.append(e) -/
theorem SR.mutate {K : PySem.W.Frag} {We W : Wd} {B : Hp} {ρ : List SV} {σ : L2.St} {α δ : Type} [MRep α] [MRep δ] {i : Nat} {m : α} {m' : δ} {l : Addr} {ob : HO} (S : SR K We B ρ σ W) (h : ρ[i]? = some (.mut m)) (hl : σ[i]? = some (some (.ref l)))
    (r : MRep.orel K W.s ob m') : ∃ W', W'.h = upd W.h l ob ∧ SR K We B (ρ.set i (.mut m')) σ W' := by
  obtain ⟨l0, ob0, e1, n1, n2, hh, _⟩ := S.at_ i _ h
  rw [hl] at e1
  cases e1
  refine ⟨⟨W.s, upd W.h l ob, fun q o hq => ?_⟩, rfl, ?_⟩
  · rw [upd_ne (fun z => by subst z; rw [n2] at hq; cases hq)]
    exact W.e q o hq
  · refine ⟨⟨S.le.s, fun q o hq => ?_, S.le.f⟩, S.b, by rw [List.length_set]; exact S.len, fun j y hj => ?_, fun j k y z l' hjk hj hk mj mk ej ek => ?_⟩
    · show upd W.h l ob q = some o
      rw [upd_ne (fun z => by subst z; rw [n1] at hq; cases hq)]
      exact S.le.h q o hq
    · rcases get_set_cases hj with ⟨rfl, rfl, hlt⟩ | ⟨hne, h2⟩
      · exact ⟨l, ob, hl, n1, n2, upd_same, r⟩
      · have s0 := S.at_ j y h2
        match y, s0 with
        | .any, _ => trivial
        | @SV.imm _ ii a, ⟨v, e, rr⟩ => exact ⟨v, e, rr⟩
        | @SV.mut _ ii a, ⟨l', ob', e, n, s, hh', rr⟩ =>
          refine ⟨l', ob', e, n, s, ?_, rr⟩
          show upd W.h l ob l' = some ob'
          rw [upd_ne (fun z => ?_)]
          · exact hh'
          · subst z
            exact S.sep j i _ _ l' hne h2 h trivial trivial e hl
    · have key : ∀ {j : Nat} {y : SV}, (ρ.set i (.mut m'))[j]? = some y → y.isMut → ∃ y', ρ[j]? = some y' ∧ y'.isMut := fun {j y} hj mj => by
        rcases get_set_cases hj with ⟨rfl, rfl, hlt⟩ | ⟨hne, h2⟩
        · exact ⟨_, h, trivial⟩
        · exact ⟨y, h2, mj⟩
      obtain ⟨y', hy', my'⟩ := key hj mj
      obtain ⟨z', hz', mz'⟩ := key hk mk
      exact S.sep j k y' z' l' hjk hy' hz' my' mz' ej ek
def oapp {α : Type} (xs : List α) (o : Option α) : Option (List α) := o.bind fun x => if capOk xs.length then some (xs ++ [x]) else none
theorem bs_app {α : Type} [Rep α] {xs : ML α} {o : Option α} {f : List α → Option (Out β γ)} {x : Str} {p0 p1 p2 : Pos} (i : Nat) (he : Ep X ρ e o) (hr : ∀ a, Bs X xx (ρ.set i (.mut (ML.mk a))) rest fr (f a) post) (hρ : ρ[i]? = some (.mut xs) := by rfl)
    (hN : X.N[i]? = some x := by rfl) (hv : Vis X.env.scope x := by first | exact Or.inl rfl | exact Or.inr (Or.inl rfl) | exact Or.inr (Or.inr rfl)) (hd : (x == ("__debug__" : Str)) = false := by decide)
    (hcd : (x == ("__classdict__" : Str)) = false := by decide) (hbase : attributeBase (.Name x p0) "append" X.env (eval (.Name x p0) X.env) = eval (.Name x p0) X.env := by rfl)
    (hfew : ((backTo p2 (starEach [e] X.env)).all (fun x => !x.1) && (backToKw p2 (keywordEach [] X.env)).all (fun x => x.1.isSome)
      && decide ([e].length + ([] : List Keyword).length + (if ([] : List Keyword).isEmpty then 0 else 1) < 30)) = true := by rfl)
    (hline : (p1.endLine == p2.line) = true := by rfl) (hst : NS X e := by intro _; rfl)
    (hs : swapsWith (.Call (.Attribute (.Name x p0) "append" p1) [e] [] p2) none pos.line X.env = pure false := by rfl) :
    Bs X xx ρ (.Expr (.Call (.Attribute (.Name x p0) "append" p1) [e] [] p2) pos :: rest) fr ((oapp xs.xs o).bind f) post := .mk fun out ho We B σ W D S k => by
  obtain ⟨y, hy, hf'⟩ := bind_some ho
  obtain ⟨z, hz, hy⟩ := bind_some hy
  split at hy
  · rename_i hc
    cases hy
    obtain ⟨l, ob, e1, n1, n2, hh, vs, rfl, r⟩ := S.at_ i _ hρ
    refine useSs (pss_cons (ps_expr (pe_bm PySem.F.plainAttrs_list PySem.F.slot_list_append PySem.F.type_list_append mt_append (pe_var hN hv hd hcd) (pa_cons pe_run pa_nil (hst _)) hbase hfew hline (hst _)) hs) pss_run) ?_
    refine ⟨_, e1, .inl ⟨rfl, _, .of hh⟩, he.run z hz We B σ W _ S fun v W1 l1 r1 => ?_⟩
    refine ⟨l, vs, v, rfl, rfl, l1.h _ _ hh, ?_, ?_⟩
    · rw [plen r]
      exact cap_lt hc
    · have S1 := S.mono l1
      have r' := pmono (fun _ _ h => Rep.mono l1.s h) r
      obtain ⟨W2, e2, S2⟩ := S1.mutate (δ := ML α) (m' := ML.mk (xs.xs ++ [z])) (ob := .lst (vs ++ [v])) hρ e1 (show MRep.orel X.K W1.s _ (ML.mk (xs.xs ++ [z])) from ⟨_, rfl, papp r' (.cons r1 .nil)⟩)
      have q := (hr _).run out hf' We B _ W2 D S2 k
      rw [e2] at q
      exact q
  · cases hy
/-! if -/
def noGo {β γ : Type} : Option (Out β γ) → Option (Out β γ)
  | some (.ret b) => some (.ret b)
  | some (.cnt g) => some (.cnt g)
  | some (.exc c) => some (.exc c)
  | _ => none
def oite {α : Type} (c : Option Bool) (x y : Option α) : Option α := c.bind fun b => if b then x else y
theorem bs_ifR {oc : Option Bool} {mA m : Option (Out β γ)} (hc : Tp X ρ c oc) (hA : Bs X xx ρ st fr mA post) (hr : Bs X xx ρ rest fr m post) : Bs X xx ρ (.If c st [] pos :: rest) fr (oite oc (noGo mA) m) post := .mk fun out ho We B σ W D S k => by
  obtain ⟨x, hx, hf⟩ := bind_some ho
  refine useSs (pss_cons (ps_if pt_run pss_run pss_nil) pss_run) (hc.run x hx We B σ W _ S fun W1 l1 => ?_)
  have S1 := S.mono l1
  cases x with
  | false => exact iteF (hr.run out hf We B σ W1 D S1 k)
  | true =>
    refine iteT ?_
    have hf : noGo mA = some out := hf
    cases mA with
    | none => cases hf
    | some o1 =>
      cases o1 with
      | go g => cases hf
      | ret b =>
        cases hf
        exact hA.run _ rfl We B σ W1 _ S1 k
      | cnt g =>
        cases hf
        exact hA.run _ rfl We B σ W1 _ S1 k
      | exc c =>
        cases hf
        exact hA.run _ rfl We B σ W1 _ S1 k
def thenO {β γ γ' : Type} (m : Option (Out β γ)) (k : γ → Option (Out β γ')) : Option (Out β γ') := m.bind fun o => match o with
  | .ret b => some (.ret b)
  | .go g => k g
  | .cnt _ => none
  | .exc c => some (.exc c)
theorem bs_ifG {γ1 : Type} {post1 : γ1 → List SV} {oc : Option Bool} {mA mB : Option (Out β γ1)} {m : γ1 → Option (Out β γ)} {st' : List Stmt} (hc : Tp X ρ c oc) (hA : Bs X xx ρ st fr mA post1) (hB : Bs X xx ρ st' fr mB post1) (hr : ∀ g, Bs X xx (post1 g) rest fr (m g) post) :
    Bs X xx ρ (.If c st st' pos :: rest) fr (thenO (oite oc mA mB) m) post := .mk fun out ho We B σ W D S k => by
  obtain ⟨o1, h1, hf⟩ := bind_some ho
  obtain ⟨x, hx, h1⟩ := bind_some h1
  refine useSs (pss_cons (ps_if pt_run pss_run pss_run) pss_run) (hc.run x hx We B σ W _ S fun W1 l1 => ?_)
  have S1 := S.mono l1
  have acc : Acc X.K xx We B fr { D with nx := RunSs X rest D } post1 o1 := by
    cases o1 with
    | ret b =>
      cases hf
      exact k
    | go g => exact fun σ' W' S' => (hr g).run out hf We B σ' W' D S' k
    | cnt g => cases hf
    | exc c =>
      cases hf
      exact k
  cases x with
  | false => exact iteF (hB.run o1 h1 We B σ W1 _ S1 acc)
  | true => exact iteT (hA.run o1 h1 We B σ W1 _ S1 acc)
/-! targets -/
/-- what storing a value through g does to the slots -/
structure TgR (K : PySem.W.Frag) (g : TG) {α : Type} [Rep α] (js : List Nat) (up : α → List SV → List SV) : Prop where
  run : ∀ (a : α) (We : Wd) (B : Hp) (ρ : List SV) (σ : L2.St) (W : Wd) (v : V) (Q : L2.St → Hp → Prop), SR K We B ρ σ W → rel K W.s v a → (∀ σ', SR K We B (up a ρ) σ' W → (∀ vs : List Nat, (∀ j ∈ js, j ∈ vs) → wipe σ' vs = wipe σ vs) → Q σ' W.h) → g v σ W.h Q
theorem wipe_get {σ : L2.St} : ∀ (vs : List Nat) (i : Nat), (wipe σ vs)[i]? = if i ∈ vs then (if i < σ.length then some none else none) else σ[i]?
  | [], i => by simp [wipe]
  | v :: vs, i => by
    show ((wipe σ vs).set v none)[i]? = _
    by_cases h : v = i
    · subst h
      rw [if_pos (List.mem_cons_self ..), List.getElem?_set]
      rw [if_pos rfl, wipe_length]
    · rw [List.getElem?_set_ne h, wipe_get vs i]
      by_cases hm : i ∈ vs
      · rw [if_pos hm, if_pos (List.mem_cons_of_mem _ hm)]
      · rw [if_neg hm, if_neg (fun z => (List.mem_cons.mp z).elim (fun q => h q.symm) hm)]
theorem wipe_set {σ : L2.St} {vs : List Nat} {j : Nat} {o : Option V} (h : j ∈ vs) : wipe (σ.set j o) vs = wipe σ vs := by
  apply List.ext_getElem?
  intro i
  rw [wipe_get, wipe_get, List.length_set]
  by_cases hi : i ∈ vs
  · rw [if_pos hi, if_pos hi]
  · rw [if_neg hi, if_neg hi, List.getElem?_set_ne (fun z => hi (by rw [← z]; exact h))]
theorem tg_name {K : PySem.W.Frag} {α : Type} [Rep α] (j : Nat) : TgR K (gName j) (α := α) [j] (fun a ρ => ρ.set j (.imm a)) := .mk fun a We B ρ σ W v Q S r k =>
  k _ (S.set (.refl W) r) fun vs h => wipe_set (h j (List.mem_cons_self ..))
theorem tg_pair {K : PySem.W.Frag} {α β : Type} [Rep α] [Rep β] (i j : Nat) : TgR K (gTup K 2 (gCons (gName i) (gCons (gName j) gNil))) (α := α × β) [i, j] (fun a ρ => (ρ.set i (.imm a.1)).set j (.imm a.2)) := .mk fun a We B ρ σ W v Q S ⟨p, x, y, e1, e2, r1, r2⟩ k => by
  refine ⟨p, [x, y], e1, .of (W.e _ _ e2), rfl, x, [y], rfl, y, [], rfl, rfl, ?_⟩
  refine k _ ((S.set (.refl W) r1).set (.refl W) r2) fun vs h => ?_
  rw [wipe_set (h j (by simp)), wipe_set (h i (by simp))]
theorem tg_tri {K : PySem.W.Frag} (i j l : Nat) : TgR K (gTup K 3 (gCons (gName i) (gCons (gName j) (gCons (gName l) gNil)))) (α := Tri) [i, j, l] (fun a ρ => ((ρ.set i (.imm a.a)).set j (.imm a.b)).set l (.imm a.c)) := .mk fun a We B ρ σ W v Q S ⟨p, e1, e2⟩ k => by
  refine ⟨p, _, e1, .of (W.e _ _ e2), rfl, _, _, rfl, _, _, rfl, _, [], rfl, rfl, ?_⟩
  refine k _ (((S.set (.refl W) rfl).set (.refl W) rfl).set (.refl W) rfl) fun vs h => ?_
  rw [wipe_set (h l (by simp)), wipe_set (h j (by simp)), wipe_set (h i (by simp))]
/-- target = e -/
theorem bs_unp {α : Type} [Rep α] {tg : Expr} {g : TG} {js : List Nat} {up : α → List SV → List SV} {o : Option α} {f : α → Option (Out β γ)} (hg : PG X tg g) (ht : TgR X.K g js up) (he : Ep X ρ e o) (hr : ∀ a, Bs X xx (up a ρ) rest fr (f a) post)
    (hs : swapsWithSole [tg] e pos.line X.env = pure false := by rfl) (hw : swappedStores [tg] e X.env = pure none := by rfl) (h1 : (assignEach [tg] X.env).map (·.2) = [assign tg X.env] := by rfl) : Bs X xx ρ (.Assign [tg] e pos :: rest) fr (o.bind f) post := .mk fun out ho We B σ W D S k => by
  obtain ⟨y, hy, hf'⟩ := bind_some ho
  refine useSs (pss_cons (ps_asg pe_run hg hs hw h1) pss_run) (he.run y hy We B σ W _ S fun v W1 l1 r1 => ?_)
  exact ht.run y We B ρ σ W1 v _ (S.mono l1) r1 fun σ' S' _ => (hr y).run out hf' We B σ' W1 D S' k
/-! for -/
def loopL {α β γ : Type} (f : α → γ → Option (Out β γ)) : List α → γ → Option (Out β γ)
  | [], g => some (.go g)
  | x :: r, g => (f x g).bind fun o => match o with
    | .ret b => some (.ret b)
    | .go g' => loopL f r g'
    | .cnt g' => loopL f r g'
    | .exc c => some (.exc c)
theorem drop_get {α : Type} {xs : List α} {i : Nat} {x : α} (h : xs[i]? = some x) : xs.drop i = x :: xs.drop (i + 1) := by
  obtain ⟨hi, rfl⟩ := List.getElem?_eq_some_iff.mp h
  exact List.drop_eq_getElem_cons hi
theorem pget' {α β : Type} {F : α → β → Prop} : ∀ {l₁ : List α} {l₂ : List β} {j : Nat} {x : α}, Paired F l₁ l₂ → l₁[j]? = some x → ∃ y, l₂[j]? = some y ∧ F x y
  | _, _, j, y, .nil, h => by simp at h
  | _, _, 0, y, .cons r t, h => by
    simp at h
    subst h
    exact ⟨_, rfl, r⟩
  | _, _, j + 1, y, .cons r t, h => by
    obtain ⟨x, h1, h2⟩ := pget' (j := j) (x := y) t (by simpa using h)
    exact ⟨x, by simpa using h1, h2⟩
/-- for target in a settled list -/
theorem bs_for {α γ1 : Type} [Rep α] {tg iter : Expr} {body : List Stmt} {g : TG} {js : List Nat} {up : α → List SV → List SV} {o : Option (List α)} {f : α → γ1 → Option (Out β γ1)} {m : γ1 → Option (Out β γ)} (P : γ1 → List SV) (g0 : γ1)
    (hg : PG X tg g) (ht : TgR X.K g js up) (hi : Ep X ρ iter o) (h0 : Wk ρ (P g0)) (hb : ∀ x g, Bs X xx (up x (P g)) body fr (f x g) P) (hr : ∀ g, Bs X xx (P g) rest fr (m g) post)
    (hp : PassesOwn (model X.prog X.w) X.A X.env X.xe) (hc : X.calm = true) (hs : ∀ x, foldedSetIterable iter X.env x = pure x := by intro _; rfl) :
    Bs X xx ρ (.For tg iter body [] pos :: rest) fr (o.bind fun xs => thenO (loopL f xs g0) m) post := .mk fun out ho We B σ W D S k => by
  obtain ⟨xs, hxs, ho⟩ := bind_some ho
  obtain ⟨o1, h1, hf⟩ := bind_some ho
  refine useSs (pss_cons (ps_for hp hc (pi_list pe_run) hg pss_run hs) pss_run) (hi.run xs hxs We B σ W _ S fun v W1 l1 ⟨p, vs, e1, hp1, r1⟩ => ?_)
  subst e1
  refine ⟨p, rfl, ⟨vs, .of (W1.e _ _ hp1)⟩, for_list (xs := vs) (fun i σ' H' => ∃ g' W', H' = W'.h ∧ SR X.K We W1.s (P g') σ' W' ∧ loopL f (xs.drop i) g' = some o1) ?_ ?_ ?_ ?_⟩
  · exact ⟨g0, W1, rfl, ((S.mono l1).rebase (Ex.refl _)).wk h0, h1⟩
  · rintro i σ' H' _ ⟨g', W', rfl, S', _⟩
    exact .of (W'.e _ _ (S'.b _ _ hp1))
  · rintro i v σ' H' hv ⟨g', W', rfl, S', hl⟩
    obtain ⟨x, hx, rx⟩ := pget' r1 hv
    rw [drop_get hx] at hl
    obtain ⟨o2, h2, hl⟩ := bind_some hl
    refine ht.run x We W1.s _ σ' W' v _ S' (Rep.mono S'.b rx) fun σ2 S2 _ => ?_
    refine (hb x g').run o2 h2 We W1.s σ2 W' _ S2 ?_
    cases o2 with
    | ret b =>
      cases hl
      cases hf
      exact fun v' W2 l2 b2 r2 q2 => k v' W2 l2 (((S.b.trans l1.s)).trans b2) r2 q2
    | go g2 => exact fun σ3 W3 S3 => ⟨g2, W3, rfl, S3, hl⟩
    | cnt g2 => exact fun σ3 W3 S3 => ⟨g2, W3, rfl, S3, hl⟩
    | exc c =>
      cases hl
      cases hf
      exact k
  · rintro σ' H' ⟨g', W', rfl, S', hl⟩
    rw [plen r1, List.drop_length] at hl
    cases hl
    exact (hr g').run out hf We B σ' W' D (S'.rebase (((S.b.trans l1.s)).trans S'.b)) k
/-- for k in range(n) -/
def rngL (n : Int) : List Int := (List.range n.toNat).map fun (i : Nat) => (i : Int)
def rngOk (n : Int) : Bool := decide (-1000000 ≤ n) && decide (n ≤ 1000000)
def orng (n : Option Int) : Option (List Int) := n.bind fun k => if rngOk k then some (rngL k) else none
theorem rngL_get {n : Int} {i : Nat} (h : i < n.toNat) : (rngL n)[i]? = some (i : Int) := by
  unfold rngL
  rw [List.getElem?_map, List.getElem?_range h]
  rfl
theorem rngL_len (n : Int) : (rngL n).length = n.toNat := by
  unfold rngL
  rw [List.length_map, List.length_range]
theorem bs_forR {γ1 : Type} {tg n : Expr} {body : List Stmt} {p1 p2 : Pos} {g : TG} {js : List Nat} {up : Int → List SV → List SV} {o : Option Int} {f : Int → γ1 → Option (Out β γ1)} {m : γ1 → Option (Out β γ)} (P : γ1 → List SV) (g0 : γ1)
    (hgl : Gl X "range") (hm : X.mg "range" = none) (hg : PG X tg g) (ht : TgR X.K g js up) (hi : Ep X ρ n o) (h0 : Wk ρ (P g0)) (hb : ∀ x g, Bs X xx (up x (P g)) body fr (f x g) P) (hr : ∀ g, Bs X xx (P g) rest fr (m g) post)
    (hp : PassesOwn (model X.prog X.w) X.A X.env X.xe) (hc : X.calm = true) (hst : NS X n := by intro _; rfl)
    (hs : ∀ x, foldedSetIterable (.Call (.Name "range" p1) [n] [] p2) X.env x = pure x := by intro _; rfl) :
    Bs X xx ρ (.For tg (.Call (.Name "range" p1) [n] [] p2) body [] pos :: rest) fr ((orng o).bind fun xs => thenO (loopL f xs g0) m) post := .mk fun out ho We B σ W D S k => by
  obtain ⟨xs, hxs, ho⟩ := bind_some ho
  obtain ⟨o1, h1, hf⟩ := bind_some ho
  obtain ⟨z, hz, hxs⟩ := bind_some hxs
  split at hxs
  · rename_i hok
    cases hxs
    unfold rngOk at hok
    simp only [Bool.and_eq_true, decide_eq_true_eq] at hok
    refine useSs (pss_cons (ps_for hp hc (pi_range1 hgl hm (pa_cons pe_run pa_nil (hst _)) (by rw [hst]; rfl)) hg pss_run hs) pss_run) (hi.run z hz We B σ W _ S fun v W1 l1 r1 => ?_)
    cases r1
    refine ⟨z, rfl, by omega, by omega, for_range (lo := 0) (n := z.toNat) (fun i σ' H' => ∃ g' W', H' = W'.h ∧ SR X.K We W1.s (P g') σ' W' ∧ loopL f ((rngL z).drop i) g' = some o1) ?_ ?_ ?_⟩
    · exact ⟨g0, W1, rfl, ((S.mono l1).rebase (Ex.refl _)).wk h0, h1⟩
    · rintro i σ' H' hi' ⟨g', W', rfl, S', hl⟩
      rw [drop_get (rngL_get hi')] at hl
      obtain ⟨o2, h2, hl⟩ := bind_some hl
      refine ht.run (i : Int) We W1.s _ σ' W' _ _ S' (show V.int (0 + (i : Int)) = V.int i by rw [Int.zero_add]) fun σ2 S2 _ => ?_
      refine (hb (i : Int) g').run o2 h2 We W1.s σ2 W' _ S2 ?_
      cases o2 with
      | ret b =>
        cases hl
        cases hf
        exact fun v' W2 l2 b2 r2 q2 => k v' W2 l2 (((S.b.trans l1.s)).trans b2) r2 q2
      | go g2 => exact fun σ3 W3 S3 => ⟨g2, W3, rfl, S3, hl⟩
      | cnt g2 => exact fun σ3 W3 S3 => ⟨g2, W3, rfl, S3, hl⟩
      | exc c =>
        cases hl
        cases hf
        exact k
    · rintro σ' H' ⟨g', W', rfl, S', hl⟩
      rw [← rngL_len, List.drop_length] at hl
      cases hl
      exact (hr g').run out hf We B σ' W' D (S'.rebase (((S.b.trans l1.s)).trans S'.b)) k
  · cases hxs
/-! while -/
def loopN {β γ : Type} (c : γ → Option Bool) (f : γ → Option (Out β γ)) : Nat → γ → Option (Out β γ)
  | 0, _ => none
  | n + 1, g => (c g).bind fun b => if b then (f g).bind fun o => match o with
      | .ret b => some (.ret b)
      | .go g' => loopN c f n g'
      | .cnt g' => loopN c f n g'
      | .exc c => some (.exc c)
    else some (.go g)
theorem loopN_mono {β γ : Type} {c : γ → Option Bool} {f : γ → Option (Out β γ)} : ∀ {n : Nat} {g : γ} {o : Out β γ}, loopN c f n g = some o → loopN c f (n + 1) g = some o
  | 0, _, _, h => by cases h
  | n + 1, g, o, h => by
    obtain ⟨b, hb, h⟩ := bind_some h
    show (c g).bind _ = _
    rw [hb]
    show (if b = true then _ else _) = _
    cases b with
    | false => exact h
    | true =>
      rw [if_pos rfl] at h ⊢
      obtain ⟨o1, h1, h⟩ := bind_some h
      rw [h1]
      cases o1 with
      | ret b => exact h
      | go g' => exact loopN_mono (n := n) h
      | cnt g' => exact loopN_mono (n := n) h
      | exc c => exact h
theorem loopN_le {β γ : Type} {c : γ → Option Bool} {f : γ → Option (Out β γ)} {n k : Nat} {g : γ} {o : Out β γ} (h : loopN c f n g = some o) : loopN c f (n + k) g = some o := by
  induction k with
  | zero => exact h
  | succ k ih => exact loopN_mono ih
open Classical in
noncomputable def loopW {β γ : Type} (c : γ → Option Bool) (f : γ → Option (Out β γ)) (g : γ) : Option (Out β γ) :=
  if h : ∃ n o, loopN c f n g = some o then loopN c f h.choose g else none
theorem loopW_some {β γ : Type} {c : γ → Option Bool} {f : γ → Option (Out β γ)} {g : γ} {o : Out β γ} : loopW c f g = some o ↔ ∃ n, loopN c f n g = some o := by
  constructor
  · intro h
    unfold loopW at h
    split at h
    · exact ⟨_, h⟩
    · cases h
  · rintro ⟨n, h⟩
    have hex : ∃ n o, loopN c f n g = some o := ⟨n, o, h⟩
    unfold loopW
    rw [dif_pos hex]
    obtain ⟨o', h'⟩ := hex.choose_spec
    have e1 := loopN_le (k := n) h'
    have e2 := loopN_le (k := hex.choose) h
    rw [Nat.add_comm] at e2
    rw [e1] at e2
    rw [h', Option.some.inj e2]
/-- one turn -/
theorem loopW_eq {β γ : Type} (c : γ → Option Bool) (f : γ → Option (Out β γ)) (g : γ) : loopW c f g = (c g).bind fun b => if b then (f g).bind fun o => match o with
      | .ret b => some (.ret b)
      | .go g' => loopW c f g'
      | .cnt g' => loopW c f g'
      | .exc c => some (.exc c)
    else some (.go g) := by
  have key : ∀ o, loopW c f g = some o ↔ ((c g).bind fun b => if b then (f g).bind fun o => match o with
      | .ret b => some (.ret b)
      | .go g' => loopW c f g'
      | .cnt g' => loopW c f g'
      | .exc c => some (.exc c)
    else some (.go g)) = some o := by
    intro o
    rw [loopW_some]
    constructor
    · rintro ⟨n, h⟩
      cases n with
      | zero => cases h
      | succ n =>
        obtain ⟨b, hb, h⟩ := bind_some h
        rw [hb]
        show (if b = true then _ else _) = _
        cases b with
        | false => exact h
        | true =>
          rw [if_pos rfl] at h ⊢
          obtain ⟨o1, h1, h⟩ := bind_some h
          rw [h1]
          cases o1 with
          | ret b => exact h
          | go g' => exact loopW_some.mpr ⟨n, h⟩
          | cnt g' => exact loopW_some.mpr ⟨n, h⟩
          | exc c => exact h
    · intro h
      obtain ⟨b, hb, h⟩ := bind_some h
      cases b with
      | false => exact ⟨1, by show (c g).bind _ = _; rw [hb]; exact h⟩
      | true =>
        rw [if_pos rfl] at h
        obtain ⟨o1, h1, h⟩ := bind_some h
        cases o1 with
        | ret b => exact ⟨1, by show (c g).bind _ = _; rw [hb]; show (f g).bind _ = _; rw [h1]; exact h⟩
        | go g' =>
          obtain ⟨n, h⟩ := loopW_some.mp h
          exact ⟨n + 1, by show (c g).bind _ = _; rw [hb]; show (f g).bind _ = _; rw [h1]; exact h⟩
        | cnt g' =>
          obtain ⟨n, h⟩ := loopW_some.mp h
          exact ⟨n + 1, by show (c g).bind _ = _; rw [hb]; show (f g).bind _ = _; rw [h1]; exact h⟩
        | exc e => exact ⟨1, by show (c g).bind _ = _; rw [hb]; show (f g).bind _ = _; rw [h1]; exact h⟩
  cases h : loopW c f g with
  | some o => exact ((key o).mp h).symm
  | none =>
    cases h2 : ((c g).bind fun b => if b then (f g).bind fun o => match o with
      | .ret b => some (.ret b)
      | .go g' => loopW c f g'
      | .cnt g' => loopW c f g'
      | .exc c => some (.exc c)
    else some (.go g)) with
    | none => rfl
    | some o =>
      rw [(key o).mpr h2] at h
      cases h
theorem bs_while {γ1 : Type} {body : List Stmt} {oc : γ1 → Option Bool} {f : γ1 → Option (Out β γ1)} {m : γ1 → Option (Out β γ)} (P : γ1 → List SV) (g0 : γ1)
    (h0 : Wk ρ (P g0)) (hc : ∀ g, Tp X (P g) c (oc g)) (hb : ∀ g, Bs X xx (P g) body fr (f g) P) (hr : ∀ g, Bs X xx (P g) rest fr (m g) post) (hp : PassesOwn (model X.prog X.w) X.A X.env X.xe) :
    Bs X xx ρ (.While c body [] pos :: rest) fr (thenO (loopW oc f g0) m) post := .mk fun out ho We B σ W D S k => by
  obtain ⟨o1, h1, hf⟩ := bind_some ho
  obtain ⟨n0, h1⟩ := loopW_some.mp h1
  refine useSs (pss_cons (ps_while hp pt_run pss_run) pss_run) ?_
  refine ⟨fun n σ' H' => ∃ g' W', H' = W'.h ∧ SR X.K We B (P g') σ' W' ∧ loopN oc f n g' = some o1, ⟨n0, g0, W, rfl, S.wk h0, h1⟩, ?_⟩
  rintro n σ' H' ⟨g', W', rfl, S', hl⟩
  cases n with
  | zero => cases hl
  | succ n =>
    obtain ⟨b, hb', hl⟩ := bind_some hl
    refine (hc g').run b hb' We B σ' W' _ S' fun W1 l1 => ?_
    have S1 := S'.mono l1
    cases b with
    | false =>
      cases hl
      exact iteF ((hr g').run out hf We B σ' W1 D S1 k)
    | true =>
      rw [if_pos rfl] at hl
      obtain ⟨o2, h2, hl⟩ := bind_some hl
      refine iteT ⟨fun σ2 H2 => ∃ g2 W2, H2 = W2.h ∧ SR X.K We B (P g2) σ2 W2 ∧ loopN oc f n g2 = some o1, fun σ2 H2 hW => ⟨n, Nat.lt_succ_self n, hW⟩, ?_⟩
      refine (hb g').run o2 h2 We B σ' W1 _ S1 ?_
      cases o2 with
      | ret b =>
        cases hl
        cases hf
        exact k
      | go g2 => exact fun σ3 W3 S3 => ⟨g2, W3, rfl, S3, hl⟩
      | cnt g2 => exact fun σ3 W3 S3 => ⟨g2, W3, rfl, S3, hl⟩
      | exc c =>
        cases hl
        cases hf
        exact k
end
end T
/-! typed layer, fourth part: defs and calls, comprehensions, data compared -/
namespace T
open PySem PySem.Spec PyProof.Rows L2
open Evl (Ex)
open Rep (rel)

/-! ### what a def promises -/
def SV.settled (K : PySem.W.Frag) (W : Wd) (v : V) : SV → Prop
  | .any => True
  | @SV.imm _ r a => r.rel K W.s v a
  | @SV.mut _ _ _ => False
inductive AR (K : PySem.W.Frag) (W : Wd) : List V → List SV → Prop
  | nil : AR K W [] []
  | cons {v : V} {x : SV} {vs : List V} {xs : List SV} : SV.settled K W v x → AR K W vs xs → AR K W (v :: vs) (x :: xs)
theorem AR.len {K : PySem.W.Frag} {W : Wd} {vs : List V} {xs : List SV} (h : AR K W vs xs) : vs.length = xs.length := by
  induction h with
  | nil => rfl
  | cons _ _ ih => exact congrArg Nat.succ ih
theorem AR.get {K : PySem.W.Frag} {W : Wd} {vs : List V} {xs : List SV} (h : AR K W vs xs) : ∀ {j : Nat} {y : SV}, xs[j]? = some y → ∃ x, vs[j]? = some x ∧ SV.settled K W x y := by
  induction h with
  | nil => intro j y e; simp at e
  | cons r _ ih =>
    intro j y e
    cases j with
    | zero =>
      cases e
      exact ⟨_, rfl, r⟩
    | succ j => exact ih (j := j) e
/-- fr: the result is a new object; C: what is computed of what -/
def spOf (K : PySem.W.Frag) (fr : Bool) {β : Type} [Rep β] (C : List SV → β → Prop) : Sp := fun vs H Q _ =>
  ∃ (W : Wd) (avs : List SV) (r : β), H = W.h ∧ AR K W vs avs ∧ (∀ x ∈ avs, ¬ x.isMut) ∧ C avs r ∧
    ∀ v W', W.Le W' → rel K W'.s v r → (fr = true → ∃ p, v = .ref p ∧ W.h p = none) → Q v W'.h
def C1 {α β : Type} [Rep α] (m : α → Option β) : List SV → β → Prop := fun l r => ∃ a, l = [.imm a] ∧ m a = some r
def C2 {α α' β : Type} [Rep α] [Rep α'] (m : α → α' → Option β) : List SV → β → Prop := fun l r => ∃ a b, l = [.imm a, .imm b] ∧ m a b = some r
def C3 {α α' α'' β : Type} [Rep α] [Rep α'] [Rep α''] (m : α → α' → α'' → Option β) : List SV → β → Prop := fun l r => ∃ a b c, l = [.imm a, .imm b, .imm c] ∧ m a b c = some r
def C4 {α α' α'' α3 β : Type} [Rep α] [Rep α'] [Rep α''] [Rep α3] (m : α → α' → α'' → α3 → Option β) : List SV → β → Prop := fun l r => ∃ a b c d, l = [.imm a, .imm b, .imm c, .imm d] ∧ m a b c d = some r
def C5 {α α' α'' α3 α4 β : Type} [Rep α] [Rep α'] [Rep α''] [Rep α3] [Rep α4] (m : α → α' → α'' → α3 → α4 → Option β) : List SV → β → Prop := fun l r => ∃ a b c d e, l = [.imm a, .imm b, .imm c, .imm d, .imm e] ∧ m a b c d e = some r
/-- the value of a def's body -/
def retv {β γ : Type} (o : Option (Out β γ)) : Option β := match o with
  | some (.ret b) => some b
  | _ => none
/-- nothing is raised -/
def noX : Nat → Hp → Prop := fun _ _ => False
def nopost : Empty → List SV := fun z => nomatch z
section
variable {P : Program} {w : World} {K : PySem.W.Frag} {mg : Str → Option Value} {base : Heap} {name qual : Str} {params : Arguments} {body : List Stmt} {scope : Scope} {f : Addr} {fd : FuncData} {N ps : List Str} {k : Nat} {β : Type} [Rep β] {fr : Bool} {C : List SV → β → Prop}
abbrev cx0 (P : Program) (w : World) (K : PySem.W.Frag) (mg : Str → Option Value) (base : Heap) (N : List Str) (qual : Str) (scope : Scope) (f : Addr) (cd : Value) (A : Around) (outer : List Env) (s : Shared) (H : Hp) (E : XK) : Cx := (cxOf CX0 P w K mg base N qual scope f cd A outer s H E).nox
theorem sr_start {W : Wd} {vs : List V} {avs : List SV} (hl : avs.length ≤ N.length) (r : AR K W vs avs) (nm : ∀ x ∈ avs, ¬ x.isMut) : SR K W W.s (avs ++ List.replicate (N.length - avs.length) .any) (L2.start N vs) W := by
  have el := r.len
  unfold L2.start
  refine ⟨.refl W, Ex.refl _, by simp [el], fun i x h => ?_, fun i j x y l hij hi hj mi mj _ _ => ?_⟩
  · by_cases hi : i < avs.length
    · rw [List.getElem?_append_left hi] at h
      obtain ⟨v, hv, rv⟩ := r.get h
      rw [List.getElem?_append_left (by rw [List.length_map, el]; exact hi), List.getElem?_map, hv]
      match x, rv with
      | .any, _ => trivial
      | @SV.imm _ ii a, rv => exact ⟨v, rfl, rv⟩
    · rw [List.getElem?_append_right (by omega), List.getElem?_replicate] at h
      split at h
      · cases h
        trivial
      · cases h
  · by_cases hi' : i < avs.length
    · rw [List.getElem?_append_left hi'] at hi
      exact nm x (List.mem_of_getElem? hi) mi
    · rw [List.getElem?_append_right (by omega), List.getElem?_replicate] at hi
      split at hi
      · cases hi
        exact mi
      · cases hi
/-- THE RULE of a def: its body, from the arguments -/
theorem fn_ok {γ : Type} {post : γ → List SV} (F : FunD K name qual params body scope [] [] f fd) (S : FnScope N ps scope) (hl : ps.length ≤ N.length) (hC : ∀ l r, C l r → l.length = ps.length)
    (h : ∀ (cdv : Value) (A : Around) (outer : List Env) (s : Shared) (H : Hp) (E : XK), Room k (A.deeper (envOfC qual scope s.heap.objs.size f cdv)) → ∀ l r, C l r →
      ∃ m : Option (Out β γ), retv m = some r ∧ Bs (cx0 P w K mg base N qual scope f cdv A outer s H E) noX (l ++ List.replicate (N.length - l.length) .any) body fr m post) :
    FnOk P w K mg base CX0 (k + 1) f fd ps (spOf K fr C) := by
  refine F.ok S (fun vs H Q E ⟨W, avs, r, _, pr, _, c, _⟩ => pr.len.trans (hC _ _ c)) (fun cdv A outer s H vs Q E hr ⟨W, avs, r, eh, pr, nm, c, q⟩ => ?_)
  subst eh
  obtain ⟨m, hm, hb⟩ := h cdv A outer s W.h E hr avs r c
  refine ⟨RunSs (cx0 P w K mg base N qual scope f cdv A outer s W.h E) body, PSs.nox pss_run, ?_⟩
  unfold retv at hm
  split at hm
  · rename_i b
    cases hm
    refine hb.run (.ret r) rfl W W.s _ W _ (sr_start (by rw [hC _ _ c]; exact hl) pr nm) ?_
    exact fun v W' le _ rr hf => q v W' le rr hf
  · cases hm
theorem fn_ok1 {α γ : Type} [Rep α] {m : α → Option (Out β γ)} {post : γ → List SV} (F : FunD K name qual params body scope [] [] f fd) (S : FnScope N ps scope) (hl : ps.length ≤ N.length) (h1 : ps.length = 1)
    (h : ∀ (cdv : Value) (A : Around) (outer : List Env) (s : Shared) (H : Hp) (E : XK), Room k (A.deeper (envOfC qual scope s.heap.objs.size f cdv)) → ∀ a, Bs (cx0 P w K mg base N qual scope f cdv A outer s H E) noX ([.imm a] ++ List.replicate (N.length - 1) .any) body fr (m a) post) :
    FnOk P w K mg base CX0 (k + 1) f fd ps (spOf K fr (C1 fun a => retv (m a))) :=
  fn_ok F S hl (fun l r ⟨a, e, _⟩ => by rw [e, h1]; rfl) fun cdv A outer s H E hr l r ⟨a, e, hm⟩ => by
    subst e
    exact ⟨m a, hm, h cdv A outer s H E hr a⟩
theorem fn_ok2 {α α' γ : Type} [Rep α] [Rep α'] {m : α → α' → Option (Out β γ)} {post : γ → List SV} (F : FunD K name qual params body scope [] [] f fd) (S : FnScope N ps scope) (hl : ps.length ≤ N.length) (h1 : ps.length = 2)
    (h : ∀ (cdv : Value) (A : Around) (outer : List Env) (s : Shared) (H : Hp) (E : XK), Room k (A.deeper (envOfC qual scope s.heap.objs.size f cdv)) → ∀ a b, Bs (cx0 P w K mg base N qual scope f cdv A outer s H E) noX ([.imm a, .imm b] ++ List.replicate (N.length - 2) .any) body fr (m a b) post) :
    FnOk P w K mg base CX0 (k + 1) f fd ps (spOf K fr (C2 fun a b => retv (m a b))) :=
  fn_ok F S hl (fun l r ⟨a, b, e, _⟩ => by rw [e, h1]; rfl) fun cdv A outer s H E hr l r ⟨a, b, e, hm⟩ => by
    subst e
    exact ⟨m a b, hm, h cdv A outer s H E hr a b⟩
theorem fn_ok3 {α α' α'' γ : Type} [Rep α] [Rep α'] [Rep α''] {m : α → α' → α'' → Option (Out β γ)} {post : γ → List SV} (F : FunD K name qual params body scope [] [] f fd) (S : FnScope N ps scope) (hl : ps.length ≤ N.length) (h1 : ps.length = 3)
    (h : ∀ (cdv : Value) (A : Around) (outer : List Env) (s : Shared) (H : Hp) (E : XK), Room k (A.deeper (envOfC qual scope s.heap.objs.size f cdv)) → ∀ a b c, Bs (cx0 P w K mg base N qual scope f cdv A outer s H E) noX ([.imm a, .imm b, .imm c] ++ List.replicate (N.length - 3) .any) body fr (m a b c) post) :
    FnOk P w K mg base CX0 (k + 1) f fd ps (spOf K fr (C3 fun a b c => retv (m a b c))) :=
  fn_ok F S hl (fun l r ⟨a, b, c, e, _⟩ => by rw [e, h1]; rfl) fun cdv A outer s H E hr l r ⟨a, b, c, e, hm⟩ => by
    subst e
    exact ⟨m a b c, hm, h cdv A outer s H E hr a b c⟩
theorem fn_ok4 {α α' α'' α3 γ : Type} [Rep α] [Rep α'] [Rep α''] [Rep α3] {m : α → α' → α'' → α3 → Option (Out β γ)} {post : γ → List SV} (F : FunD K name qual params body scope [] [] f fd) (S : FnScope N ps scope) (hl : ps.length ≤ N.length) (h1 : ps.length = 4)
    (h : ∀ (cdv : Value) (A : Around) (outer : List Env) (s : Shared) (H : Hp) (E : XK), Room k (A.deeper (envOfC qual scope s.heap.objs.size f cdv)) → ∀ a b c d, Bs (cx0 P w K mg base N qual scope f cdv A outer s H E) noX ([.imm a, .imm b, .imm c, .imm d] ++ List.replicate (N.length - 4) .any) body fr (m a b c d) post) :
    FnOk P w K mg base CX0 (k + 1) f fd ps (spOf K fr (C4 fun a b c d => retv (m a b c d))) :=
  fn_ok F S hl (fun l r ⟨a, b, c, d, e, _⟩ => by rw [e, h1]; rfl) fun cdv A outer s H E hr l r ⟨a, b, c, d, e, hm⟩ => by
    subst e
    exact ⟨m a b c d, hm, h cdv A outer s H E hr a b c d⟩
theorem fn_ok5 {α α' α'' α3 α4 γ : Type} [Rep α] [Rep α'] [Rep α''] [Rep α3] [Rep α4] {m : α → α' → α'' → α3 → α4 → Option (Out β γ)} {post : γ → List SV} (F : FunD K name qual params body scope [] [] f fd) (S : FnScope N ps scope) (hl : ps.length ≤ N.length) (h1 : ps.length = 5)
    (h : ∀ (cdv : Value) (A : Around) (outer : List Env) (s : Shared) (H : Hp) (E : XK), Room k (A.deeper (envOfC qual scope s.heap.objs.size f cdv)) → ∀ a b c d e, Bs (cx0 P w K mg base N qual scope f cdv A outer s H E) noX ([.imm a, .imm b, .imm c, .imm d, .imm e] ++ List.replicate (N.length - 5) .any) body fr (m a b c d e) post) :
    FnOk P w K mg base CX0 (k + 1) f fd ps (spOf K fr (C5 fun a b c d e => retv (m a b c d e))) :=
  fn_ok F S hl (fun l r ⟨a, b, c, d, e, eq, _⟩ => by rw [eq, h1]; rfl) fun cdv A outer s H E hr l r ⟨a, b, c, d, e, eq, hm⟩ => by
    subst eq
    exact ⟨m a b c d e, hm, h cdv A outer s H E hr a b c d e⟩
end
/-! ### calls -/
section
variable {X : Cx} {ρ : List SV} {pos : Pos} {e a b c d : Expr} {es : List Expr}
/-- arguments -/
structure Ag (X : Cx) (ρ : List SV) (es : List Expr) (o : Option (List SV)) : Prop where
  run : ∀ l, o = some l → (∀ x ∈ l, ¬ x.isMut) ∧ ∀ (We : Wd) (B : Hp) (σ : L2.St) (W : Wd) (Q : List V → Hp → Prop), SR X.K We B ρ σ W → (∀ vs W', W.Le W' → AR X.K W' vs l → Q vs W'.h) → RunA X es σ W.h Q
theorem ag_nil : Ag X ρ [] (some []) := .mk fun l hl => by
  cases hl
  exact ⟨fun x hx => (by cases hx), fun We B σ W Q S k => useA pa_nil (k [] W (.refl W) .nil)⟩
theorem settled_mono {K : PySem.W.Frag} {W W' : Wd} {v : V} {x : SV} (le : W.Le W') (h : SV.settled K W v x) : SV.settled K W' v x := by
  match x, h with
  | .any, _ => trivial
  | @SV.imm _ ii a, h => exact ii.mono le.s h
def oarg {α : Type} [Rep α] (x : Option α) (l : Option (List SV)) : Option (List SV) := x.bind fun a => l.bind fun r => some (.imm a :: r)
theorem ag_cons {α : Type} [Rep α] {oa : Option α} {os : Option (List SV)} (ha : Ep X ρ a oa) (hs : Ag X ρ es os) (hst : NS X a := by intro _; rfl) : Ag X ρ (a :: es) (oarg oa os) := .mk fun l hl => by
  obtain ⟨x, hx, hl⟩ := bind_some hl
  obtain ⟨r, hr, hl⟩ := bind_some hl
  cases hl
  obtain ⟨h1, h2⟩ := hs.run r hr
  refine ⟨fun y hy => ?_, fun We B σ W Q S k => useA (pa_cons pe_run pa_run (hst _)) (ha.run x hx We B σ W _ S fun v W1 l1 r1 => h2 We B σ W1 _ (S.mono l1) fun us W2 l2 r2 => ?_)⟩
  · rcases List.mem_cons.mp hy with e | hy
    · subst e
      exact fun z => z
    · exact h1 y hy
  · exact k (v :: us) W2 (l1.trans l2) (.cons (Rep.mono l2.s r1) r2)
theorem run_call {β : Type} [Rep β] {fr : Bool} {C : List SV → β → Prop} {k : Nat} {f : Addr} {fd : FuncData} {ps : List Str} {x : Str} {p1 : Pos} {o : Option (List SV)}
    (F : FnOk X.prog X.w X.K X.mg X.base CX0 k f fd ps (spOf X.K fr C)) (hr : Room k X.A) (hg : Gl X x) (hm : X.mg x = some (.ref f)) (hk : PySem.W.keepIn X.K (.ref f) = true) (hb : Binds X.K fd ps [])
    (ha : Ag X ρ (a :: es) o) (hst : NS X a) (hd : (x == ("__debug__" : Str)) = false) (hpl : (backTo pos (starEach es X.env)).any (·.1) = false) {r : β} {l : List SV} (hl : o = some l) (hc : C l r) {We : Wd} {B : Hp} {σ : L2.St} {W : Wd} {Q : VK} (S : SR X.K We B ρ σ W)
    (q : ∀ v W', W.Le W' → rel X.K W'.s v r → (fr = true → ∃ p, v = .ref p ∧ W.h p = none) → Q v W'.h) : RunE X (.Call (.Name x p1) (a :: es) [] pos) σ W.h Q := by
  obtain ⟨nm, h2⟩ := ha.run l hl
  refine useE (pe_call F hr hg hm hk hb .nil (E := E0) pass0 pa_run hd (hst _) hpl) (h2 We B σ W _ S fun vs W1 l1 pr => ?_)
  refine ⟨W1, l, r, rfl, by rw [List.append_nil]; exact pr, nm, hc, fun v W2 l2 r2 hf => q v W2 (l1.trans l2) r2 fun z => ?_⟩
  obtain ⟨p, e1, e2⟩ := hf z
  exact ⟨p, e1, ex_back l1.h e2⟩
theorem ep_call {β : Type} [Rep β] {fr : Bool} {C : List SV → β → Prop} {k : Nat} {f : Addr} {fd : FuncData} {ps : List Str} {x : Str} {p1 : Pos} {o : Option (List SV)} {ob : Option β}
    (F : FnOk X.prog X.w X.K X.mg X.base CX0 k f fd ps (spOf X.K fr C)) (hr : Room k X.A) (hg : Gl X x) (hm : X.mg x = some (.ref f)) (hk : PySem.W.keepIn X.K (.ref f) = true) (hb : Binds X.K fd ps [])
    (ha : Ag X ρ (a :: es) o) (hC : ∀ r, ob = some r → ∃ l, o = some l ∧ C l r) (hst : NS X a := by intro _; rfl) (hd : (x == ("__debug__" : Str)) = false := by decide) (hpl : (backTo pos (starEach es X.env)).any (·.1) = false := by rfl) :
    Ep X ρ (.Call (.Name x p1) (a :: es) [] pos) ob := .mk fun r hr' We B σ W Q S q => by
  obtain ⟨l, hl, hc⟩ := hC r hr'
  exact run_call F hr hg hm hk hb ha hst hd hpl hl hc S fun v W' le rr _ => q v W' le rr
theorem ep_callF {β : Type} [Rep β] {C : List SV → List β → Prop} {k : Nat} {f : Addr} {fd : FuncData} {ps : List Str} {x : Str} {p1 : Pos} {o : Option (List SV)} {ob : Option (List β)}
    (F : FnOk X.prog X.w X.K X.mg X.base CX0 k f fd ps (spOf X.K true C)) (hr : Room k X.A) (hg : Gl X x) (hm : X.mg x = some (.ref f)) (hk : PySem.W.keepIn X.K (.ref f) = true) (hb : Binds X.K fd ps [])
    (ha : Ag X ρ (a :: es) o) (hC : ∀ r, ob = some r → ∃ l, o = some l ∧ C l r) (hst : NS X a := by intro _; rfl) (hd : (x == ("__debug__" : Str)) = false := by decide) (hpl : (backTo pos (starEach es X.env)).any (·.1) = false := by rfl) :
    EpF X ρ (.Call (.Name x p1) (a :: es) [] pos) ob := .mk fun r hr' We B σ W Q S q => by
  obtain ⟨l, hl, hc⟩ := hC r hr'
  refine run_call F hr hg hm hk hb ha hst hd hpl hl hc S fun v W' le ⟨p, vs, e1, e2, r2⟩ hf => ?_
  obtain ⟨p', e3, e4⟩ := hf rfl
  rw [e1] at e3
  cases e3
  subst e1
  exact q p vs W' le e4 e2 r2
theorem c1 {α β : Type} [Rep α] {m : α → Option β} {oa : Option α} : ∀ r, oa.bind m = some r → ∃ l, oarg oa (some []) = some l ∧ C1 m l r := fun r h => by
  obtain ⟨x, rfl, h⟩ := bind_some h
  exact ⟨_, rfl, x, rfl, h⟩
theorem c2 {α α' β : Type} [Rep α] [Rep α'] {m : α → α' → Option β} {oa : Option α} {ob : Option α'} : ∀ r, bind2 oa ob m = some r → ∃ l, oarg oa (oarg ob (some [])) = some l ∧ C2 m l r := fun r h => by
  obtain ⟨x, y, rfl, rfl, h⟩ := bind2_some h
  exact ⟨_, rfl, x, y, rfl, h⟩
def bind3 {α β γ δ : Type} (oa : Option α) (ob : Option β) (oc : Option γ) (f : α → β → γ → Option δ) : Option δ := oa.bind fun x => ob.bind fun y => oc.bind fun z => f x y z
def bind4 {α β γ δ ε : Type} (oa : Option α) (ob : Option β) (oc : Option γ) (od : Option δ) (f : α → β → γ → δ → Option ε) : Option ε := oa.bind fun x => ob.bind fun y => oc.bind fun z => od.bind fun u => f x y z u
def bind5 {α β γ δ ε ζ : Type} (oa : Option α) (ob : Option β) (oc : Option γ) (od : Option δ) (oe : Option ε) (f : α → β → γ → δ → ε → Option ζ) : Option ζ := oa.bind fun x => ob.bind fun y => oc.bind fun z => od.bind fun u => oe.bind fun v => f x y z u v
theorem c3 {α α' α'' β : Type} [Rep α] [Rep α'] [Rep α''] {m : α → α' → α'' → Option β} {oa : Option α} {ob : Option α'} {oc : Option α''} : ∀ r, bind3 oa ob oc m = some r → ∃ l, oarg oa (oarg ob (oarg oc (some []))) = some l ∧ C3 m l r := fun r h => by
  obtain ⟨x, rfl, h1⟩ := bind_some h
  obtain ⟨y, rfl, h2⟩ := bind_some h1
  obtain ⟨z, rfl, h3⟩ := bind_some h2
  exact ⟨_, rfl, x, y, z, rfl, h3⟩
theorem c4 {α α' α'' α3 β : Type} [Rep α] [Rep α'] [Rep α''] [Rep α3] {m : α → α' → α'' → α3 → Option β} {oa : Option α} {ob : Option α'} {oc : Option α''} {od : Option α3} : ∀ r, bind4 oa ob oc od m = some r → ∃ l, oarg oa (oarg ob (oarg oc (oarg od (some [])))) = some l ∧ C4 m l r := fun r h => by
  obtain ⟨x, rfl, h1⟩ := bind_some h
  obtain ⟨y, rfl, h2⟩ := bind_some h1
  obtain ⟨z, rfl, h3⟩ := bind_some h2
  obtain ⟨u, rfl, h4⟩ := bind_some h3
  exact ⟨_, rfl, x, y, z, u, rfl, h4⟩
theorem c5 {α α' α'' α3 α4 β : Type} [Rep α] [Rep α'] [Rep α''] [Rep α3] [Rep α4] {m : α → α' → α'' → α3 → α4 → Option β} {oa : Option α} {ob : Option α'} {oc : Option α''} {od : Option α3} {oe : Option α4} : ∀ r, bind5 oa ob oc od oe m = some r → ∃ l, oarg oa (oarg ob (oarg oc (oarg od (oarg oe (some []))))) = some l ∧ C5 m l r := fun r h => by
  obtain ⟨x, rfl, h1⟩ := bind_some h
  obtain ⟨y, rfl, h2⟩ := bind_some h1
  obtain ⟨z, rfl, h3⟩ := bind_some h2
  obtain ⟨u, rfl, h4⟩ := bind_some h3
  obtain ⟨t, rfl, h5⟩ := bind_some h4
  exact ⟨_, rfl, x, y, z, u, t, rfl, h5⟩
end
/-! ### comprehensions -/
def lcM {α β : Type} (c : α → Option Bool) (f : α → Option β) : List α → Option (List β)
  | [] => some []
  | x :: r => (c x).bind fun b => if b then (f x).bind fun y => (lcM c f r).bind fun ys => some (y :: ys) else lcM c f r
def wipeS (ρ : List SV) : List Nat → List SV
  | [] => ρ
  | v :: vs => (wipeS ρ vs).set v .any
theorem SR.wipe {K : PySem.W.Frag} {We W : Wd} {B : Hp} {ρ : List SV} {σ : L2.St} (S : SR K We B ρ σ W) : ∀ vs : List Nat, SR K We B (wipeS ρ vs) (L2.wipe σ vs) W
  | [] => S
  | v :: vs => (SR.wipe S vs).setAny (.refl W)
section
variable {X : Cx} {ρ : List SV} {pos : Pos} {elt tg iter : Expr} {ifs : List Expr} {scope : Scope}
theorem wipe_twice (σ : L2.St) (vs : List Nat) : L2.wipe (L2.wipe σ vs) vs = L2.wipe σ vs := by
  apply List.ext_getElem?
  intro i
  rw [wipe_get, wipe_get, wipe_length]
  by_cases hi : i ∈ vs
  · rw [if_pos hi, if_pos hi]
  · rw [if_neg hi, if_neg hi]
/-- the turns of a comprehension: what stands between them -/
def LcP (K : PySem.W.Frag) (We : Wd) (B : Hp) (ρ : List SV) (σ : L2.St) (W1 : Wd) (D : Addr) {α β : Type} [Rep β] (c : α → Option Bool) (f : α → Option β) (xs : List α) (all : List β) (i : Nat) (H : Hp) : Prop :=
  ∃ (W' : Wd) (vs : List V) (ys zs : List β), H = W'.h ∧ W1.Le W' ∧ W'.s D = none ∧ W'.h D = some (.lst vs) ∧ Paired (fun v x => rel K W'.s v x) vs ys ∧ vs.length ≤ i ∧ lcM c f (xs.drop i) = some zs ∧ all = ys ++ zs
theorem lcp_start {K : PySem.W.Frag} {We W1 : Wd} {B : Hp} {σ : L2.St} {D : Addr} {α β : Type} [Rep β] {c : α → Option Bool} {f : α → Option β} {xs : List α} {all : List β} (hD : W1.h D = none) (h : lcM c f xs = some all) : LcP K We B ρ σ W1 D c f xs all 0 (upd W1.h D (.lst [])) := by
  refine ⟨⟨W1.s, upd W1.h D (.lst []), fun q o hq => ?_⟩, [], [], all, rfl, ⟨Ex.refl _, Ex.new hD, fun _ _ h => h⟩, ex_back W1.e hD, upd_same, .nil, Nat.le_refl _, h, rfl⟩
  rw [upd_ne (fun z => by subst z; rw [ex_back W1.e hD] at hq; cases hq)]
  exact W1.e q o hq
theorem lcp_turn {K : PySem.W.Frag} {We W1 : Wd} {B : Hp} {σ : L2.St} {D : Addr} {α β : Type} [Rep β] {c : α → Option Bool} {f : α → Option β} {xs : List α} {all : List β} {x : α} {i : Nat} {H : Hp} {vs : List Nat} {js : List Nat} {up : α → List SV → List SV} {g : TG} {tt : TT} {te : TE} {v : V}
    (hD : W1.h D = none) (hx : xs[i]? = some x) (hcap : capOk xs.length = true) (S : SR K We B ρ σ W1) [Rep α] (rx : rel K W1.s v x) (ht : TgR K g js up) (hjs : ∀ j ∈ js, j ∈ vs)
    (hts : ∀ b, c x = some b → ∀ (We : Wd) (B : Hp) (σ : L2.St) (W : Wd) (Q : Bool → Hp → Prop), SR K We B (up x (wipeS ρ vs)) σ W → (∀ W', W.Le W' → Q b W'.h) → tt σ W.h Q)
    (hes : ∀ y, f x = some y → ∀ (We : Wd) (B : Hp) (σ : L2.St) (W : Wd) (Q : VK), SR K We B (up x (wipeS ρ vs)) σ W → (∀ u W', W.Le W' → rel K W'.s u y → Q u W'.h) → te σ W.h Q)
    (p : LcP K We B ρ σ W1 D c f xs all i H) : g v (L2.wipe σ vs) H fun σ2 H2 => L2.wipe σ2 vs = L2.wipe σ vs ∧ tt σ2 H2 fun b H3 =>
      if b = true then te σ2 H3 fun y H4 => ∃ acc, H4 D = some (.lst acc) ∧ acc.length < sizeLine ∧ LcP K We B ρ σ W1 D c f xs all (i + 1) (upd H4 D (.lst (acc ++ [y]))) else LcP K We B ρ σ W1 D c f xs all (i + 1) H3 := by
  obtain ⟨W', us, ys, zs, rfl, l1, n1, h1, r1, hl, hm, rfl⟩ := p
  rw [drop_get hx] at hm
  obtain ⟨b, hb, hm⟩ := bind_some hm
  have hi : i < xs.length := (List.getElem?_eq_some_iff.mp hx).1
  have S' := (S.mono l1).wipe vs
  refine ht.run x We B _ _ W' v _ S' (Rep.mono l1.s rx) fun σ2 S2 hw => ⟨?_, ?_⟩
  · rw [hw vs hjs]
    exact wipe_twice σ vs
  · refine hts b hb We B σ2 W' _ S2 fun W3 l3 => ?_
    cases b with
    | false => exact iteF ⟨W3, us, ys, zs, rfl, l1.trans l3, l3.f D (ne_none_of h1) n1, l3.h _ _ h1, pmono (fun _ _ h => Rep.mono l3.s h) r1, by omega, hm, rfl⟩
    | true =>
      rw [if_pos rfl] at hm
      obtain ⟨y, hy, hm⟩ := bind_some hm
      obtain ⟨zs', hz, hm⟩ := bind_some hm
      cases hm
      refine iteT (hes y hy We B σ2 W3 _ (S2.mono l3) fun u W4 l4 r4 => ⟨us, l4.h _ _ (l3.h _ _ h1), ?_, ?_⟩)
      · refine Nat.lt_of_le_of_lt ?_ (cap_lt hcap)
        omega
      · have n4 : W4.s D = none := l4.f D (ne_none_of (l3.h _ _ h1)) (l3.f D (ne_none_of h1) n1)
        have l14 := (l1.trans l3).trans l4
        refine ⟨⟨W4.s, upd W4.h D (.lst (us ++ [u])), fun q o hq => ?_⟩, us ++ [u], ys ++ [y], zs', rfl, ⟨l14.s, fun q o hq => ?_, l14.f⟩, n4, upd_same, papp (pmono (fun _ _ h => Rep.mono (l3.trans l4).s h) r1) (.cons r4 .nil), ?_, hz, ?_⟩
        · rw [upd_ne (fun z => by subst z; rw [n4] at hq; cases hq)]
          exact W4.e q o hq
        · show upd W4.h D _ q = some o
          rw [upd_ne (fun z => by subst z; rw [hD] at hq; cases hq)]
          exact l14.h q o hq
        · rw [List.length_append]
          exact Nat.add_le_add_right hl 1
        · rw [List.append_assoc]
          rfl
theorem lcp_end {K : PySem.W.Frag} {We W W1 : Wd} {B : Hp} {σ : L2.St} {D : Addr} {α β : Type} [Rep β] {c : α → Option Bool} {f : α → Option β} {xs : List α} {all : List β} {H : Hp} {Q : VK} (le : W.Le W1) (hD : W1.h D = none) (p : LcP K We B ρ σ W1 D c f xs all xs.length H)
    (k : ∀ p vs W', W.Le W' → W.h p = none → W'.s p = some (.lst vs) → Paired (fun v x => rel K W'.s v x) vs all → Q (.ref p) W'.h) : Q (.ref D) H := by
  obtain ⟨W', us, ys, zs, rfl, l1, n1, h1, r1, hl, hm, rfl⟩ := p
  rw [List.drop_length] at hm
  cases hm
  have ex : Ex W'.s (upd W'.s D (.lst us)) := Ex.new n1
  have l0 := le.trans l1
  have hD0 : W.h D = none := ex_back le.h hD
  refine k D us ⟨upd W'.s D (.lst us), W'.h, fun q o hq => ?_⟩ ⟨l0.s.trans ex, l0.h, fun q h2 h3 => ?_⟩ hD0 upd_same (by rw [List.append_nil]; exact pmono (fun _ _ h => Rep.mono ex h) r1)
  · by_cases hq' : q = D
    · subst hq'
      rw [upd_same] at hq
      cases hq
      exact h1
    · rw [upd_ne hq'] at hq
      exact W'.e q o hq
  · show upd W'.s D _ q = none
    rw [upd_ne (fun z => h2 (by rw [z]; exact hD0))]
    exact l0.f q h2 h3
def tElt (X : Cx) (scope : Scope) (elt : Expr) : TE := fun σ H Q => ∀ (s : Shared) (H0 : Hp) (C : Addr) (cl : List (Str × Addr)) (fp : List Addr), RunE (X.blk s H0 scope (compEnvC scope cl C X.env) fp) elt σ H Q
/-- [elt for tg in iter if ..] computes o -/
structure LcOk (X : Cx) (ρ : List SV) (elt tg iter : Expr) (ifs : List Expr) (scope : Scope) {β : Type} [Rep β] (o : Option (List β)) : Prop where
  ex : ∃ (wi : TI) (g : TG) (tt : TT) (te : TE) (own : List (Str × Nat)), PI X tg iter wi ∧ BlkOk X.N X.env.scope scope own ∧
    (∀ (s : Shared) (H : Hp) (C : Addr) (cl : List (Str × Addr)) (fp : List Addr), PG (X.blk s H scope (compEnvC scope cl C X.env) fp) tg g) ∧
    (∀ (s : Shared) (H : Hp) (C : Addr) (cl : List (Str × Addr)) (fp : List Addr), PTs (X.blk s H scope (compEnvC scope cl C X.env) fp) ifs tt) ∧
    (∀ (s : Shared) (H : Hp) (C : Addr) (cl : List (Str × Addr)) (fp : List Addr), PE (X.blk s H scope (compEnvC scope cl C X.env) fp) elt te) ∧
    (∀ x, foldedSetIterable iter X.env x = pure x) ∧
    ∀ all, o = some all → ∀ (We : Wd) (B : Hp) (σ : L2.St) (W : Wd) (Q : VK), SR X.K We B ρ σ W → (∀ p vs W', W.Le W' → W.h p = none → W'.s p = some (.lst vs) → Paired (fun v x => rel X.K W'.s v x) vs all → Q (.ref p) W'.h) → tLc wi g tt te (own.map (·.2)) σ W.h Q
theorem LcOk.ep {β : Type} [Rep β] {o : Option (List β)} (hc : X.calm = true) (nd : X.N.Nodup) (h : LcOk X ρ elt tg iter ifs scope o) : EpF X ρ (.ListComp elt [⟨tg, iter, ifs, 0⟩] scope pos) o := .mk fun all hall We B σ W Q S k => by
  obtain ⟨wi, g, tt, te, own, h1, h2, h3, h4, h5, h6, h7⟩ := h.ex
  exact useE (pe_lc hc nd h1 h2 h3 h4 h5 h6) (h7 all hall We B σ W Q S k)
/-- iter a list -/
theorem lc_C {α β : Type} [Rep α] [Rep β] {g : TG} {js : List Nat} {up : α → List SV → List SV} {oxs : Option (List α)} {oc : α → Option Bool} {f : α → Option β} {tt : TT} (own : List (Str × Nat)) (ok : BlkOk X.N X.env.scope scope own) (hi : Lp X ρ iter oxs)
    (hg : ∀ (s : Shared) (H : Hp) (C : Addr) (cl : List (Str × Addr)) (fp : List Addr), PG (X.blk s H scope (compEnvC scope cl C X.env) fp) tg g) (ht : TgR X.K g js up) (hjs : ∀ j ∈ js, j ∈ own.map (·.2))
    (hpt : ∀ (s : Shared) (H : Hp) (C : Addr) (cl : List (Str × Addr)) (fp : List Addr), PTs (X.blk s H scope (compEnvC scope cl C X.env) fp) ifs tt)
    (hts : ∀ x b, oc x = some b → ∀ (We : Wd) (B : Hp) (σ : L2.St) (W : Wd) (Q : Bool → Hp → Prop), SR X.K We B (up x (wipeS ρ (own.map (·.2)))) σ W → (∀ W', W.Le W' → Q b W'.h) → tt σ W.h Q)
    (he : ∀ x (s : Shared) (H : Hp) (C : Addr) (cl : List (Str × Addr)) (fp : List Addr), Ep (X.blk s H scope (compEnvC scope cl C X.env) fp) (up x (wipeS ρ (own.map (·.2)))) elt (f x)) (hs : ∀ x, foldedSetIterable iter X.env x = pure x) :
    LcOk X ρ elt tg iter ifs scope (oxs.bind fun xs => if capOk xs.length then lcM oc f xs else none) := ⟨_, g, tt, tElt X scope elt, own, pi_list pe_run, ok, hg, hpt, fun s H C cl fp => ⟨fun pins s' σ' H' Q' I h => h s H C cl fp pins s' I⟩, hs, fun all hall We B σ W Q S k => by
  obtain ⟨xs, hxs, hm⟩ := bind_some hall
  split at hm
  · rename_i hcap
    refine hi.run xs hxs We B σ W _ S fun p vs W1 l1 hp r1 => ?_
    refine ⟨p, rfl, ⟨vs, .of hp⟩, fun D hD => ?_⟩
    refine lc_list (g := g) (tt := tt) (te := tElt X scope elt) (σ := σ) (vs := own.map (·.2)) (Qd := fun H => Q (.ref D) H) (xs := vs) (LcP X.K We B ρ σ W1 D oc f xs all) (lcp_start hD hm) ?_ ?_ ?_
    · rintro i H _ ⟨W', us, ys, zs, rfl, l2, _⟩
      exact .of (l2.h _ _ hp)
    · intro i v H hv pv
      obtain ⟨x, hx, rx⟩ := pget' r1 hv
      exact lcp_turn hD hx hcap (S.mono l1) rx ht hjs (fun b hb => hts x b hb) (fun y hy We' B' σ' W' Q' S' k' s H0 C cl fp => (he x s H0 C cl fp).run y hy We' B' σ' W' Q' S' k') pv
    · intro H pv
      rw [plen r1] at pv
      exact lcp_end l1 hD pv k
  · cases hm⟩
/-- .. over range(n) -/
theorem lc_R {β : Type} [Rep β] {g : TG} {js : List Nat} {up : Int → List SV → List SV} {n : Expr} {p1 p2 : Pos} {on : Option Int} {oc : Int → Option Bool} {f : Int → Option β} {tt : TT} (own : List (Str × Nat)) (hgl : Gl X "range") (hm : X.mg "range" = none) (ok : BlkOk X.N X.env.scope scope own) (hi : Ep X ρ n on)
    (hg : ∀ (s : Shared) (H : Hp) (C : Addr) (cl : List (Str × Addr)) (fp : List Addr), PG (X.blk s H scope (compEnvC scope cl C X.env) fp) tg g) (ht : TgR X.K g js up) (hjs : ∀ j ∈ js, j ∈ own.map (·.2))
    (hpt : ∀ (s : Shared) (H : Hp) (C : Addr) (cl : List (Str × Addr)) (fp : List Addr), PTs (X.blk s H scope (compEnvC scope cl C X.env) fp) ifs tt)
    (hts : ∀ x b, oc x = some b → ∀ (We : Wd) (B : Hp) (σ : L2.St) (W : Wd) (Q : Bool → Hp → Prop), SR X.K We B (up x (wipeS ρ (own.map (·.2)))) σ W → (∀ W', W.Le W' → Q b W'.h) → tt σ W.h Q)
    (he : ∀ x (s : Shared) (H : Hp) (C : Addr) (cl : List (Str × Addr)) (fp : List Addr), Ep (X.blk s H scope (compEnvC scope cl C X.env) fp) (up x (wipeS ρ (own.map (·.2)))) elt (f x)) (hs : ∀ x, foldedSetIterable (.Call (.Name "range" p1) [n] [] p2) X.env x = pure x)
    (hst : NS X n) : LcOk X ρ elt tg (.Call (.Name "range" p1) [n] [] p2) ifs scope ((orng on).bind fun xs => if capOk xs.length then lcM oc f xs else none) := ⟨_, g, tt, tElt X scope elt, own, pi_range1 hgl hm (pa_cons pe_run pa_nil (hst _)) (by rw [hst]; rfl), ok, hg, hpt, fun s H C cl fp => ⟨fun pins s' σ' H' Q' I h => h s H C cl fp pins s' I⟩, hs, fun all hall We B σ W Q S k => by
  obtain ⟨xs, hxs, hm'⟩ := bind_some hall
  obtain ⟨z, hz, hxs⟩ := bind_some hxs
  split at hxs
  · rename_i hok
    cases hxs
    unfold rngOk at hok
    simp only [Bool.and_eq_true, decide_eq_true_eq] at hok
    split at hm'
    · rename_i hcap
      refine hi.run z hz We B σ W _ S fun v W1 l1 r1 => ?_
      cases r1
      refine ⟨z, rfl, by omega, by omega, fun D hD => ?_⟩
      refine lc_range (g := g) (tt := tt) (te := tElt X scope elt) (σ := σ) (vs := own.map (·.2)) (Qd := fun H => Q (.ref D) H) (lo := 0) (n := z.toNat) (LcP X.K We B ρ σ W1 D oc f (rngL z) all) (lcp_start hD hm') ?_ ?_
      · intro i H hi' pv
        exact lcp_turn hD (rngL_get hi') hcap (S.mono l1) (show V.int (0 + (i : Int)) = V.int (i : Int) by rw [Int.zero_add]) ht hjs (fun b hb => hts _ b hb) (fun y hy We' B' σ' W' Q' S' k' s H0 C cl fp => (he _ s H0 C cl fp).run y hy We' B' σ' W' Q' S' k') pv
      · intro H pv
        rw [← rngL_len] at pv
        exact lcp_end l1 hD pv k
    · cases hm'
  · cases hxs⟩
/-- the tests: none, one -/
def oYes {α : Type} : α → Option Bool := fun _ => some true
theorem tts_nil {K : PySem.W.Frag} {α : Type} {ρ' : α → List SV} : ∀ (x : α) b, oYes x = some b → ∀ (We : Wd) (B : Hp) (σ : L2.St) (W : Wd) (Q : Bool → Hp → Prop), SR K We B (ρ' x) σ W → (∀ W', W.Le W' → Q b W'.h) → tYes σ W.h Q := fun x b hb We B σ W Q S k => by
  cases hb
  exact k W (.refl W)
def tOne (X : Cx) (scope : Scope) (c : Expr) : TT := fun σ H Q => ∀ (s : Shared) (H0 : Hp) (C : Addr) (cl : List (Str × Addr)) (fp : List Addr), RunT (X.blk s H0 scope (compEnvC scope cl C X.env) fp) c σ H Q
theorem pts_w {c : Expr} (s : Shared) (H : Hp) (C : Addr) (cl : List (Str × Addr)) (fp : List Addr) : PTs (X.blk s H scope (compEnvC scope cl C X.env) fp) [c] (tOne X scope c) :=
  pts_one ⟨fun pins s' σ' H' Q' I h => h s H C cl fp pins s' I⟩
theorem tts_one {α : Type} {ρ' : α → List SV} {c : Expr} {oc : α → Option Bool} (h : ∀ x (s : Shared) (H : Hp) (C : Addr) (cl : List (Str × Addr)) (fp : List Addr), Tp (X.blk s H scope (compEnvC scope cl C X.env) fp) (ρ' x) c (oc x)) :
    ∀ (x : α) b, oc x = some b → ∀ (We : Wd) (B : Hp) (σ : L2.St) (W : Wd) (Q : Bool → Hp → Prop), SR X.K We B (ρ' x) σ W → (∀ W', W.Le W' → Q b W'.h) → tOne X scope c σ W.h Q := fun x b hb We B σ W Q S k s H0 C cl fp => (h x s H0 C cl fp).run b hb We B σ W Q S k
theorem bs_asgLc {xx : Nat → Hp → Prop} {β γ δ : Type} [Rep β] [Rep δ] {fr : Bool} {post : γ → List SV} {rest : List Stmt} {o : Option (List δ)} {f : List δ → Option (Out β γ)} {x : Str} {p1 : Pos} {spos : Pos} (i : Nat) (hc : X.calm = true) (nd : X.N.Nodup) (h : LcOk X ρ elt tg iter ifs scope o) (hr : ∀ a, Bs X xx (ρ.set i (.imm a)) rest fr (f a) post)
    (hi : X.N[i]? = some x := by rfl) (hx : X.env.scope.names.lookup x = some .local := by rfl) (hsw : swapsWith (.ListComp elt [⟨tg, iter, ifs, 0⟩] scope pos) (some (.Name x p1)) spos.line X.env = pure true := by exact sw_true rfl rfl rfl (by decide +kernel)) :
    Bs X xx ρ (.Assign [.Name x p1] (.ListComp elt [⟨tg, iter, ifs, 0⟩] scope pos) spos :: rest) fr (o.bind f) post := .mk fun out ho We B σ W D S k => by
  obtain ⟨y, hy, hf'⟩ := bind_some ho
  obtain ⟨wi, g, tt, te, own, h1, h2, h3, h4, h5, h6, h7⟩ := h.ex
  refine useSs (pss_cons (ps_setLc hc nd hi hx hsw h1 h2 h3 h4 h5 h6) pss_run) ?_
  show tLc wi g tt te (own.map (·.2)) σ W.h (fun x H1 => RunSs X rest D (σ.set i (some x)) H1)
  refine h7 y hy We B σ W _ S fun p vs W1 l1 hn hp r1 => ?_
  exact (hr y).run out hf' We B _ W1 D (S.set l1 ⟨p, vs, rfl, hp, r1⟩) k
theorem bs_asgLcM {xx : Nat → Hp → Prop} {β γ δ : Type} [Rep β] [Flat δ] {fr : Bool} {post : γ → List SV} {rest : List Stmt} {o : Option (List δ)} {f : List δ → Option (Out β γ)} {x : Str} {p1 : Pos} {spos : Pos} (i : Nat) (hc : X.calm = true) (nd : X.N.Nodup) (h : LcOk X ρ elt tg iter ifs scope o) (hr : ∀ a, Bs X xx (ρ.set i (.mut (ML.mk a))) rest fr (f a) post)
    (hi : X.N[i]? = some x := by rfl) (hx : X.env.scope.names.lookup x = some .local := by rfl) (hsw : swapsWith (.ListComp elt [⟨tg, iter, ifs, 0⟩] scope pos) (some (.Name x p1)) spos.line X.env = pure true := by exact sw_true rfl rfl rfl (by decide +kernel)) :
    Bs X xx ρ (.Assign [.Name x p1] (.ListComp elt [⟨tg, iter, ifs, 0⟩] scope pos) spos :: rest) fr (o.bind f) post := .mk fun out ho We B σ W D S k => by
  obtain ⟨y, hy, hf'⟩ := bind_some ho
  obtain ⟨wi, g, tt, te, own, h1, h2, h3, h4, h5, h6, h7⟩ := h.ex
  refine useSs (pss_cons (ps_setLc hc nd hi hx hsw h1 h2 h3 h4 h5 h6) pss_run) ?_
  show tLc wi g tt te (own.map (·.2)) σ W.h (fun x H1 => RunSs X rest D (σ.set i (some x)) H1)
  refine h7 y hy We B σ W _ S fun p vs W1 l1 hn hp r1 => ?_
  obtain ⟨W2, e2, S2⟩ := S.newM (i := i) l1 hn hp r1
  have z := (hr y).run out hf' We B _ W2 D S2 k
  rw [e2] at z
  exact z
theorem bs_none {xx : Nat → Hp → Prop} {β γ : Type} [Rep β] {fr : Bool} {post : γ → List SV} {st : List Stmt} : Bs X xx ρ st (β := β) fr none post := .mk fun out ho => by cases ho
/-- a, b = e1, e2 -/
theorem bs_par {xx : Nat → Hp → Prop} {β γ α α' : Type} [Rep β] [Rep α] [Rep α'] {fr : Bool} {post : γ → List SV} {rest : List Stmt} {a b : Expr} {oa : Option α} {ob : Option α'} {f : α → α' → Option (Out β γ)} {x y : Str} {px py pt : Pos} {kt k2 pt2} (i j : Nat) (hc : X.calm = true) (nd : X.N.Nodup)
    (ha : Ep X ρ a oa) (hb : Ep X ρ b ob) (hr : ∀ u v, Bs X xx ((ρ.set i (.imm u)).set j (.imm v)) rest fr (f u v) post) (hi : X.N[i]? = some x := by rfl) (hj : X.N[j]? = some y := by rfl) (hij : i ≠ j := by decide)
    (hx : X.env.scope.names.lookup x = some .local := by rfl) (hy : X.env.scope.names.lookup y = some .local := by rfl) (hw : swappedStores [.Tuple [.Name x px, .Name y py] kt pt] (.Tuple [a, b] k2 pt2) X.env = pure (some [x, y]) := by rfl)
    (hs : swapsWithSole [.Tuple [.Name x px, .Name y py] kt pt] (.Tuple [a, b] k2 pt2) pos.line X.env = pure false := by rfl) (na : NS X a := by intro _; rfl) (nb : NS X b := by intro _; rfl) :
    Bs X xx ρ (.Assign [.Tuple [.Name x px, .Name y py] kt pt] (.Tuple [a, b] k2 pt2) pos :: rest) fr (bind2 oa ob f) post := .mk fun out ho We B σ W D S k => by
  obtain ⟨u, v, hu, hv, hf⟩ := bind2_some ho
  refine useSs (pss_cons (ps_par hc nd hi hj hij hx hy (pa_cons pe_run (pa_cons pe_run pa_nil (nb _)) (na _)) hw hs) pss_run) (ha.run u hu We B σ W _ S fun z W1 l1 r1 => hb.run v hv We B σ W1 _ (S.mono l1) fun z2 W2 l2 r2 => ?_)
  exact ⟨z, z2, rfl, (hr u v).run out hf We B _ W2 D ((S.set (l1.trans l2) (Rep.mono l2.s r1)).set (.refl W2) r2) k⟩
end
end T
/-! typed layer, fifth part: data compared, built-ins, the script, defs known by name -/
namespace T
open PySem PySem.Spec PyProof.Rows L2
open Evl (Ex)
open Rep (rel)

/-! ### data -/
class Dat (α : Type) extends Rep α where
  toD : α → PyData
  dp : ∀ {K : PySem.W.Frag} {H : Hp} {v : V} {a : α}, rel K H v a → Dp K H v (toD a)
  lay : ∀ a, (toD a).canLay0 = true
  deep : Nat
  dep : ∀ a, (toD a).depth ≤ deep
  eqv : ∀ a b, PyData.eqv (toD a) (toD b) = true ↔ a = b
theorem eqv_dec {α : Type} [Dat α] [DecidableEq α] (a b : α) : PyData.eqv (Dat.toD a) (Dat.toD b) = decide (a = b) := by
  by_cases h : a = b
  · rw [decide_eq_true h]
    exact (Dat.eqv a b).mpr h
  · rw [decide_eq_false h]
    cases e : PyData.eqv (Dat.toD a) (Dat.toD b) with
    | false => rfl
    | true => exact absurd ((Dat.eqv a b).mp e) h
theorem shaped_of {α : Type} [Dat α] (h : Dat.deep α ≤ 64) (a : α) : SeqAt.shaped (Dat.toD a) = true := by
  unfold SeqAt.shaped
  rw [Dat.lay a, Bool.true_and]
  exact decide_eq_true (Nat.le_trans (Dat.dep a) h)
instance : Dat Int where
  toD := .int
  dp := fun h => by
    cases h
    exact .int _
  lay := fun _ => rfl
  deep := 0
  dep := fun _ => Nat.le_refl _
  eqv := fun a b => by
    show (a == b) = true ↔ _
    exact beq_iff_eq
instance : Dat Bool where
  toD := .bool
  dp := fun h => by
    cases h
    exact .bl _
  lay := fun _ => rfl
  deep := 0
  dep := fun _ => Nat.le_refl _
  eqv := fun a b => by
    show (a == b) = true ↔ _
    exact beq_iff_eq
theorem max_le' {a b c : Nat} (h1 : a ≤ c) (h2 : b ≤ c) : max a b ≤ c := by omega
theorem canLay_tuple (xs : List PyData) : (PyData.tuple xs).canLay0 = PyData.canLayAll0 xs := by simp only [PyData.canLay0]
theorem canLay_list (xs : List PyData) : (PyData.list xs).canLay0 = PyData.canLayAll0 xs := by simp only [PyData.canLay0]
theorem canLayAll_cons (x : PyData) (xs : List PyData) : PyData.canLayAll0 (x :: xs) = (x.canLay0 && PyData.canLayAll0 xs) := by simp only [PyData.canLayAll0]
theorem canLayAll_nil : PyData.canLayAll0 [] = true := by simp only [PyData.canLayAll0]
theorem depth_tuple (xs : List PyData) : (PyData.tuple xs).depth = PyData.depthAll xs + 1 := by simp only [PyData.depth]
theorem depth_list (xs : List PyData) : (PyData.list xs).depth = PyData.depthAll xs + 1 := by simp only [PyData.depth]
theorem depthAll_cons (x : PyData) (xs : List PyData) : PyData.depthAll (x :: xs) = max x.depth (PyData.depthAll xs) := by simp only [PyData.depthAll]
theorem depthAll_nil : PyData.depthAll [] = 0 := by simp only [PyData.depthAll]
theorem eqv_tuple (xs ys : List PyData) : PyData.eqv (.tuple xs) (.tuple ys) = PyData.eqvAll xs ys := by simp only [PyData.eqv]
theorem eqv_list (xs ys : List PyData) : PyData.eqv (.list xs) (.list ys) = PyData.eqvAll xs ys := by simp only [PyData.eqv]
theorem eqvAll_cons (x y : PyData) (xs ys : List PyData) : PyData.eqvAll (x :: xs) (y :: ys) = (PyData.eqv x y && PyData.eqvAll xs ys) := by simp only [PyData.eqvAll]
theorem eqvAll_nil : PyData.eqvAll [] [] = true := by simp only [PyData.eqvAll]
instance {α β : Type} [Dat α] [Dat β] : Dat (α × β) where
  toD := fun p => .tuple [Dat.toD p.1, Dat.toD p.2]
  dp := fun h => by
    obtain ⟨p, x, y, rfl, h2, h3, h4⟩ := h
    exact .tup (.of h2) (.cons (Dat.dp h3) (.cons (Dat.dp h4) .nil))
  lay := fun a => by rw [canLay_tuple, canLayAll_cons, canLayAll_cons, canLayAll_nil, Dat.lay, Dat.lay]; rfl
  deep := max (Dat.deep α) (Dat.deep β) + 1
  dep := fun a => by
    rw [depth_tuple, depthAll_cons, depthAll_cons, depthAll_nil]
    have h1 := Dat.dep a.1
    have h2 := Dat.dep a.2
    omega
  eqv := fun a b => by
    rw [eqv_tuple, eqvAll_cons, eqvAll_cons, eqvAll_nil, Bool.and_true, Bool.and_eq_true, Dat.eqv, Dat.eqv]
    exact (Prod.ext_iff).symm
instance : Dat Tri where
  toD := fun t => .tuple [.int t.a, .int t.b, .int t.c]
  dp := fun h => by
    obtain ⟨p, rfl, h2⟩ := h
    exact .tup (.of h2) (.cons (.int _) (.cons (.int _) (.cons (.int _) .nil)))
  lay := fun a => rfl
  deep := 1
  dep := fun a => by
    rw [depth_tuple, depthAll_cons, depthAll_cons, depthAll_cons, depthAll_nil]
    simp only [PyData.depth]
    decide
  eqv := fun a b => by
    rw [eqv_tuple, eqvAll_cons, eqvAll_cons, eqvAll_cons, eqvAll_nil]
    simp only [PyData.eqv, Bool.and_true, Bool.and_eq_true, beq_iff_eq]
    constructor
    · rintro ⟨h1, h2, h3⟩
      cases a
      cases b
      simp at h1 h2 h3
      rw [h1, h2, h3]
    · rintro rfl
      exact ⟨rfl, rfl, rfl⟩
theorem dpAll_of {α : Type} [Dat α] {K : PySem.W.Frag} {H : Hp} : ∀ {vs : List V} {xs : List α}, Paired (fun v x => rel K H v x) vs xs → DpAll K H vs (xs.map Dat.toD)
  | _, _, .nil => .nil
  | _, _, .cons r t => .cons (Dat.dp r) (dpAll_of t)
theorem layAll_map {α : Type} [Dat α] : ∀ xs : List α, PyData.canLayAll0 (xs.map Dat.toD) = true
  | [] => canLayAll_nil
  | x :: xs => by
    rw [List.map_cons, canLayAll_cons, Dat.lay, layAll_map xs]
    rfl
theorem depAll_map {α : Type} [Dat α] : ∀ xs : List α, PyData.depthAll (xs.map Dat.toD) ≤ Dat.deep α
  | [] => by rw [List.map_nil, depthAll_nil]; exact Nat.zero_le _
  | x :: xs => by
    rw [List.map_cons, depthAll_cons]
    exact max_le' (Dat.dep x) (depAll_map xs)
theorem eqvAll_map {α : Type} [Dat α] : ∀ xs ys : List α, PyData.eqvAll (xs.map Dat.toD) (ys.map Dat.toD) = true ↔ xs = ys
  | [], [] => by simp [eqvAll_nil]
  | [], _ :: _ => by simp [PyData.eqvAll]
  | _ :: _, [] => by simp [PyData.eqvAll]
  | x :: xs, y :: ys => by
    rw [List.map_cons, List.map_cons, eqvAll_cons, Bool.and_eq_true, Dat.eqv, eqvAll_map xs ys, List.cons.injEq]
instance {α : Type} [Dat α] : Dat (List α) where
  toD := fun xs => .list (xs.map Dat.toD)
  dp := fun h => by
    obtain ⟨p, vs, rfl, h2, h3⟩ := h
    exact .lst (.of h2) (dpAll_of h3)
  lay := fun xs => by rw [canLay_list]; exact layAll_map xs
  deep := Dat.deep α + 1
  dep := fun xs => by
    rw [depth_list]
    exact Nat.succ_le_succ (depAll_map xs)
  eqv := fun xs ys => by
    rw [eqv_list]
    exact eqvAll_map xs ys
mutual
theorem dpm {K : PySem.W.Frag} {H H' : Hp} (e : Ex H H') : ∀ (d : PyData) (v : V), Dp K H v d → Dp K H' v d
  | .none, _, h => by
    cases h
    exact .non
  | .bool b, _, h => by
    cases h
    exact .bl _
  | .int i, _, h => by
    cases h
    exact .int _
  | .str x, _, h => by
    cases h
    exact .str _
  | .list ds, _, h => by
    cases h with
    | lst h1 h2 => exact .lst (Evl.ex_l e h1) (dpmA e ds _ h2)
  | .tuple ds, _, h => by
    cases h with
    | tup h1 h2 => exact .tup (Evl.ex_t e h1) (dpmA e ds _ h2)
  | .dict _, _, h => by cases h
theorem dpmA {K : PySem.W.Frag} {H H' : Hp} (e : Ex H H') : ∀ (ds : List PyData) (vs : List V), DpAll K H vs ds → DpAll K H' vs ds
  | [], _, h => by
    cases h
    exact .nil
  | d :: ds, _, h => by
    cases h with
    | cons h1 h2 => exact .cons (dpm e d _ h1) (dpmA e ds _ h2)
end
theorem Dp.mono' {K : PySem.W.Frag} {H H' : Hp} (e : Ex H H') (d : PyData) (v : V) (h : Dp K H v d) : Dp K H' v d := dpm e d v h
section
variable {X : Cx} {ρ : List SV} {pos : Pos} {e a b c d : Expr}
/-- == and != of data -/
theorem cq_eqD {α : Type} [Dat α] [DecidableEq α] {oa ob : Option α} (hu : X.A.units + 64 < cLine) (ha : Ep X ρ a oa) (hb : Ep X ρ b ob) (hd : Dat.deep α ≤ 64 := by decide) : Cq X ρ .Eq a b (oeq oa ob) := cq_mk (op_eqD hu) (nomark _) (fun x y z W v u Q hf h1 h2 k => by
  cases hf
  exact ⟨_, _, Dp.mono' W.e _ _ (Dat.dp h1), Dp.mono' W.e _ _ (Dat.dp h2), shaped_of hd x, shaped_of hd y, k _ W (.refl W) (by rw [eqv_dec] <;> rfl)⟩) ha hb
theorem cq_neD {α : Type} [Dat α] [DecidableEq α] {oa ob : Option α} (hu : X.A.units + 64 < cLine) (ha : Ep X ρ a oa) (hb : Ep X ρ b ob) (hd : Dat.deep α ≤ 64 := by decide) : Cq X ρ .NotEq a b (one_ oa ob) := cq_mk (op_neD hu) (nomark _) (fun x y z W v u Q hf h1 h2 k => by
  cases hf
  exact ⟨_, _, Dp.mono' W.e _ _ (Dat.dp h1), Dp.mono' W.e _ _ (Dat.dp h2), shaped_of hd x, shaped_of hd y, k _ W (.refl W) (by rw [eqv_dec] <;> rfl)⟩) ha hb
/-- x in list, x not in list -/
def oin {α : Type} [DecidableEq α] (x : Option α) (l : Option (List α)) : Option Bool := bind2 x l fun a xs => some (decide (a ∈ xs))
def onin {α : Type} [DecidableEq α] (x : Option α) (l : Option (List α)) : Option Bool := bind2 x l fun a xs => some (!decide (a ∈ xs))
theorem any_eqv {α : Type} [Dat α] [DecidableEq α] (x : α) : ∀ xs : List α, ((xs.map Dat.toD).any fun z => PyData.eqv z (Dat.toD x)) = decide (x ∈ xs)
  | [] => by simp
  | y :: ys => by
    rw [List.map_cons, List.any_cons, any_eqv x ys, eqv_dec]
    by_cases h : y = x
    · subst h
      simp
    · have h' : ¬ x = y := fun z => h z.symm
      rw [decide_eq_false h, Bool.false_or]
      simp [h']
theorem cq_inX {α : Type} [Dat α] [DecidableEq α] {op : CmpOp} {r : R2} {neg : Bool} {oa : Option α} {ob : Option (List α)} (ho : OpR X (compareOp op) r) (hm : behindInMarks op b = false)
    (hr : ∀ x y H (Q : VK) d ds, Dp X.K H x d → Dp X.K H y (.list ds) → SeqAt.shaped d = true → SeqAt.shaped (.list ds) = true → Q (.bl (if neg then !ds.any fun z => PyData.eqv z d else ds.any fun z => PyData.eqv z d)) H → r x y H Q)
    (ha : Ep X ρ a oa) (hb : Lp X ρ b ob) (hd : Dat.deep α ≤ 63) : Cq X ρ op a b (bind2 oa ob fun a xs => some (if neg then !decide (a ∈ xs) else decide (a ∈ xs))) := by
  have key : ∀ x y, oa = some x → ob = some y → ∀ (We : Wd) (B : Hp) (σ : L2.St) (W : Wd) (Q : VK), SR X.K We B ρ σ W → (∀ W', W.Le W' → Q (.bl (if neg then !decide (x ∈ y) else decide (x ∈ y))) W'.h) → tOp r (RunE X a) (RunE X b) σ W.h Q := by
    intro x y hx hy We B σ W Q S k
    refine ha.run x hx We B σ W _ S fun v W1 l1 r1 => hb.run y hy We B σ W1 _ (S.mono l1) fun p vs W2 l2 hp r2 => ?_
    have r1' := Rep.mono l2.s r1
    refine hr _ _ _ _ _ _ (Dp.mono' W2.e _ _ (Dat.dp r1')) (.lst (.of hp) (dpAll_of (pmono (fun _ _ h => Rep.mono W2.e h) r2))) (shaped_of (Nat.le_trans hd (by decide)) x) ?_ ?_
    · exact shaped_of (α := List α) (Nat.succ_le_succ hd) y
    · rw [any_eqv]
      exact k W2 (l1.trans l2)
  refine ⟨fun pos => .mk fun z hz We B σ W Q S k => ?_, fun pos => .mk fun z hz We B σ W Q S k => ?_⟩
  · obtain ⟨x, y, hx, hy, hf⟩ := bind2_some hz
    cases hf
    exact useE (pe_cmpR ho pe_run pe_run hm) (key x y hx hy We B σ W _ S fun W' l => k _ W' l rfl)
  · obtain ⟨x, y, hx, hy, hf⟩ := bind2_some hz
    cases hf
    exact useT (pt_cmpR ho pe_run pe_run hm) (key x y hx hy We B σ W _ S fun W' l => ⟨_, rfl, k W' l⟩)
theorem cq_in {α : Type} [Dat α] [DecidableEq α] {oa : Option α} {ob : Option (List α)} (hu : X.A.units + 65 < cLine) (ha : Ep X ρ a oa) (hb : Lp X ρ b ob) (hd : Dat.deep α ≤ 63 := by decide) (hm : behindInMarks .In b = false := by rfl) : Cq X ρ .In a b (oin oa ob) :=
  cq_inX (neg := false) (op_inD hu) hm (fun x y H Q d ds h1 h2 h3 h4 q => ⟨d, ds, h1, h2, h3, h4, q⟩) ha hb hd
theorem cq_nin {α : Type} [Dat α] [DecidableEq α] {oa : Option α} {ob : Option (List α)} (hu : X.A.units + 65 < cLine) (ha : Ep X ρ a oa) (hb : Lp X ρ b ob) (hd : Dat.deep α ≤ 63 := by decide) (hm : behindInMarks .NotIn b = false := by rfl) : Cq X ρ .NotIn a b (onin oa ob) :=
  cq_inX (neg := true) (op_notInD hu) hm (fun x y H Q d ds h1 h2 h3 h4 q => ⟨d, ds, h1, h2, h3, h4, q⟩) ha hb hd
/-! built-ins -/
def ob2i (x : Option Bool) : Option Int := x.bind fun b => some (if b then 1 else 0)
theorem ep_intB {o : Option Bool} {p1 : Pos} (hg : Gl X "int") (hm : X.mg "int" = none) (ha : Ep X ρ a o) (hst : NS X a := by intro _; rfl) : Ep X ρ (.Call (.Name "int" p1) [a] [] pos) (ob2i o) := .mk fun z hz We B σ W Q S k => by
  obtain ⟨x, hx, hf⟩ := bind_some hz
  cases hf
  refine useE (pe_callTy call_int1 hg hm (by decide +kernel) (pa_cons pe_run pa_nil (hst _)) (he := hst _)) (ha.run x hx We B σ W _ S fun v W1 l1 r1 => .inr ⟨x, by rw [r1], k _ W1 l1 rfl⟩)
def oabs (x : Option Int) : Option Int := x.bind fun i => some (if i < 0 then -i else i)
theorem ep_abs {o : Option Int} {p1 : Pos} (hg : Gl X "abs") (hm : X.mg "abs" = none) (ha : Ep X ρ a o) (hst : NS X a := by intro _; rfl) : Ep X ρ (.Call (.Name "abs" p1) [a] [] pos) (oabs o) := .mk fun z hz We B σ W Q S k => by
  obtain ⟨x, hx, hf⟩ := bind_some hz
  cases hf
  refine useE (pe_callB call_abs hg hm (by decide +kernel) (pa_cons pe_run pa_nil (hst _)) (he := hst _)) (ha.run x hx We B σ W _ S fun v W1 l1 r1 => ⟨x, by rw [r1], k _ W1 l1 rfl⟩)
def omax2 (x y : Option Int) : Option Int := bind2 x y fun i j => some (if j > i then j else i)
def omin2 (x y : Option Int) : Option Int := bind2 x y fun i j => some (if j < i then j else i)
theorem ep_max2 {oa ob : Option Int} {p1 : Pos} (hc : X.calm = true) (hg : Gl X "max") (hm : X.mg "max" = none) (ha : Ep X ρ a oa) (hb : Ep X ρ b ob) (na : NS X a := by intro _; rfl) (nb : NS X b := by intro _; rfl) (hpl : (backTo pos (starEach [b] X.env)).any (·.1) = false := by rfl) :
    Ep X ρ (.Call (.Name "max" p1) [a, b] [] pos) (omax2 oa ob) := .mk fun z hz We B σ W Q S k => by
  obtain ⟨x, y, hx, hy, hf⟩ := bind2_some hz
  cases hf
  refine useE (pe_callB (call_max2 hc) hg hm (by decide +kernel) (pa_cons pe_run (pa_cons pe_run pa_nil (nb _)) (na _)) (he := na _) (hpl := hpl)) (ha.run x hx We B σ W _ S fun v W1 l1 r1 => hb.run y hy We B σ W1 _ (S.mono l1) fun u W2 l2 r2 => ⟨x, y, by rw [r1, r2], k _ W2 (l1.trans l2) rfl⟩)
theorem ep_min2 {oa ob : Option Int} {p1 : Pos} (hc : X.calm = true) (hg : Gl X "min") (hm : X.mg "min" = none) (ha : Ep X ρ a oa) (hb : Ep X ρ b ob) (na : NS X a := by intro _; rfl) (nb : NS X b := by intro _; rfl) (hpl : (backTo pos (starEach [b] X.env)).any (·.1) = false := by rfl) :
    Ep X ρ (.Call (.Name "min" p1) [a, b] [] pos) (omin2 oa ob) := .mk fun z hz We B σ W Q S k => by
  obtain ⟨x, y, hx, hy, hf⟩ := bind2_some hz
  cases hf
  refine useE (pe_callB (call_min2 hc) hg hm (by decide +kernel) (pa_cons pe_run (pa_cons pe_run pa_nil (nb _)) (na _)) (he := na _) (hpl := hpl)) (ha.run x hx We B σ W _ S fun v W1 l1 r1 => hb.run y hy We B σ W1 _ (S.mono l1) fun u W2 l2 r2 => ⟨x, y, by rw [r1, r2], k _ W2 (l1.trans l2) rfl⟩)
/-- list(a list) -/
theorem ep_list {α : Type} [Rep α] {o : Option (List α)} {p1 : Pos} (hg : Gl X "list") (hm : X.mg "list" = none) (ha : Lp X ρ a o) (hst : NS X a := by intro _; rfl) : EpF X ρ (.Call (.Name "list" p1) [a] [] pos) o := .mk fun z hz We B σ W Q S k => by
  refine useE (pe_callTy call_list_of hg hm (by decide +kernel) (pa_cons pe_run pa_nil (hst _)) (he := hst _)) (ha.run z hz We B σ W _ S fun p vs W1 l1 hp r1 => ⟨p, vs, rfl, .inl (.of hp), fun n hn => ?_⟩)
  have l2 := Wd.Le.new W1 (.lst vs) hn
  exact k n vs (W1.new n _) (l1.trans l2) (ex_back l1.h hn) upd_same (pmono (fun _ _ h => Rep.mono l2.s h) r1)
/-- all(a list of bools) -/
def oall (x : Option (List Bool)) : Option Bool := x.bind fun l => some (l.all id)
theorem bools_of {K : PySem.W.Frag} {H : Hp} : ∀ {vs : List V} {bs : List Bool}, Paired (fun v x => rel K H v x) vs bs → vs = bs.map V.bl
  | _, _, .nil => rfl
  | _, _, .cons r t => by
    cases r
    rw [bools_of t]
    rfl
theorem ints_of {K : PySem.W.Frag} {H : Hp} : ∀ {vs : List V} {bs : List Int}, Paired (fun v x => rel K H v x) vs bs → vs = bs.map V.int
  | _, _, .nil => rfl
  | _, _, .cons r t => by
    cases r
    rw [ints_of t]
    rfl
theorem ep_all {o : Option (List Bool)} {p1 : Pos} (hc : X.calm = true) (hg : Gl X "all") (hm : X.mg "all" = none) (ha : Lp X ρ a o) (hst : NS X a := by intro _; rfl) : Ep X ρ (.Call (.Name "all" p1) [a] [] pos) (oall o) := .mk fun z hz We B σ W Q S k => by
  obtain ⟨x, hx, hf⟩ := bind_some hz
  cases hf
  refine useE (pe_callB (cr_all hc) hg hm (by decide +kernel) (pa_cons pe_run pa_nil (hst _)) (he := hst _)) (ha.run x hx We B σ W _ S fun p vs W1 l1 hp r1 => ⟨p, x, rfl, .of ?_, k _ W1 l1 rfl⟩)
  rw [hp, bools_of r1]
/-! the script -/
def oslen (x : Option Script) : Option Int := x.bind fun s => some s.ns.length
def osidx (x : Option Script) (i : Option Int) : Option Int := bind2 x i fun s j => atI s.ns j
theorem ep_slen {o : Option Script} {p1 : Pos} (hg : Gl X "len") (hm : X.mg "len" = none) (ha : Ep X ρ a o) (hst : NS X a := by intro _; rfl) : Ep X ρ (.Call (.Name "len" p1) [a] [] pos) (oslen o) := .mk fun z hz We B σ W Q S k => by
  obtain ⟨x, hx, hf⟩ := bind_some hz
  cases hf
  refine useE (pe_callB call_len_seq hg hm PySem.boot_len (pa_cons pe_run pa_nil (hst _)) (he := hst _)) (ha.run x hx We B σ W _ S fun v W1 l1 ⟨p, e1, e2⟩ => ⟨p, _, by rw [e1], .inl (Evl.ex_l W1.e e2), ?_⟩)
  rw [List.length_map]
  exact k _ W1 l1 rfl
theorem ep_sidx {oa : Option Script} {ob : Option Int} (ha : Ep X ρ a oa) (hb : Ep X ρ b ob) (hs : PlainIx b := by exact fun _ _ => rfl) : Ep X ρ (.Subscript a b pos) (osidx oa ob) :=
  ep_t2 (pe_ix ix_list pe_run pe_run hs) ha hb fun x y z W v u Q hf ⟨p, e1, e2⟩ h2 k => by
    cases h2
    refine ⟨p, _, y, V.int z, e1, rfl, Evl.ex_l W.e e2, ?_, k _ W (.refl W) rfl⟩
    have h3 := atI_map V.int x.ns y
    rw [hf] at h3
    exact h3
end
theorem _root_.L2.Room.units65 {k : Nat} {A : Around} (r : Room k A) : A.units + 65 < cLine := by
  have := r.un
  omega
section
variable {X : Cx} {ρ : List SV} {pos : Pos} {a : Expr} {rest : List Stmt} {γ : Type} {post : γ → List SV}
/-- return of a list that was changed till now -/
theorem bs_retM {xx : Nat → Hp → Prop} {α : Type} [Rep α] {m : ML α} {x : Str} {p1 : Pos} {fr : Bool} (i : Nat) (hi : ρ[i]? = some (.mut m) := by rfl) (hN : X.N[i]? = some x := by rfl) (hv : Vis X.env.scope x := by first | exact Or.inl rfl | exact Or.inr (Or.inl rfl) | exact Or.inr (Or.inr rfl)) (hd : (x == ("__debug__" : Str)) = false := by decide)
    (hcd : (x == ("__classdict__" : Str)) = false := by decide) : Bs X xx ρ (.Return (some (.Name x p1)) pos :: rest) (γ := γ) fr (some (.ret m.xs)) post := .mk fun out ho We B σ W D S k => by
  cases ho
  obtain ⟨l, vs, W', e1, n1, eh, hp, r, S'⟩ := S.freeze hi
  rw [← eh]
  exact useSs (pss_cons (ps_ret (pe_var hN hv hd hcd)) pss_run) ⟨_, e1, k _ W' S'.le S'.b ⟨l, vs, rfl, hp, r⟩ fun _ => ⟨l, rfl, n1⟩⟩
end
/-! ### defs known by name -/
def Has (P : Program) (w : World) (K : PySem.W.Frag) (mg : Str → Option Value) (base : Heap) (k : Nat) (x : Str) (ps : List Str) (sp : Sp) : Prop :=
  ∃ (f : Addr) (fd : FuncData), FnOk P w K mg base CX0 k f fd ps sp ∧ mg x = some (.ref f) ∧ PySem.W.keepIn K (.ref f) = true ∧ Binds K fd ps []
section
variable {X : Cx} {ρ : List SV} {pos : Pos} {a : Expr} {es : List Expr}
theorem ep_has {β : Type} [Rep β] {fr : Bool} {C : List SV → β → Prop} {k k' : Nat} {ps : List Str} {x : Str} {p1 : Pos} {o : Option (List SV)} {ob : Option β}
    (F : Has X.prog X.w X.K X.mg X.base k x ps (spOf X.K fr C)) (hr : Room k' X.A) (hk : k ≤ k') (ha : Ag X ρ (a :: es) o) (hC : ∀ r, ob = some r → ∃ l, o = some l ∧ C l r) (hg : Gl X x := by rfl) (hst : NS X a := by intro _; rfl) (hd : (x == ("__debug__" : Str)) = false := by decide)
    (hpl : (backTo pos (starEach es X.env)).any (·.1) = false := by rfl) : Ep X ρ (.Call (.Name x p1) (a :: es) [] pos) ob := by
  obtain ⟨f, fd, F, hm, hkp, hb⟩ := F
  exact ep_call F (hr.mono hk) hg hm hkp hb ha hC hst hd hpl
theorem ep_hasF {β : Type} [Rep β] {C : List SV → List β → Prop} {k k' : Nat} {ps : List Str} {x : Str} {p1 : Pos} {o : Option (List SV)} {ob : Option (List β)}
    (F : Has X.prog X.w X.K X.mg X.base k x ps (spOf X.K true C)) (hr : Room k' X.A) (hk : k ≤ k') (ha : Ag X ρ (a :: es) o) (hC : ∀ r, ob = some r → ∃ l, o = some l ∧ C l r) (hg : Gl X x := by rfl) (hst : NS X a := by intro _; rfl) (hd : (x == ("__debug__" : Str)) = false := by decide)
    (hpl : (backTo pos (starEach es X.env)).any (·.1) = false := by rfl) : EpF X ρ (.Call (.Name x p1) (a :: es) [] pos) ob := by
  obtain ⟨f, fd, F, hm, hkp, hb⟩ := F
  exact ep_callF F (hr.mono hk) hg hm hkp hb ha hC hst hd hpl
end
end T
/-! typed layer: defs that raise, caught; the head's facts with own ones -/
namespace T
open PySem PySem.Spec PyProof.Rows L2
open Evl (Ex)
open Rep (rel)

/-! ### defs that may raise: inr c: the exception of number c -/
def spX (K : PySem.W.Frag) (fr : Bool) {β : Type} [Rep β] (cls : Nat → Addr) (C : List SV → β ⊕ Nat → Prop) : Sp := fun vs H Q E =>
  ∃ (W : Wd) (avs : List SV) (o : β ⊕ Nat), H = W.h ∧ AR K W vs avs ∧ (∀ x ∈ avs, ¬ x.isMut) ∧ C avs o ∧
    (∀ r, o = .inl r → ∀ v W', W.Le W' → rel K W'.s v r → (fr = true → ∃ p, v = .ref p ∧ W.h p = none) → Q v W'.h) ∧
    (∀ c, o = .inr c → ∀ W', W.Le W' → E (.ref (cls c)) none W'.h)
def retx {β γ : Type} (o : Option (Out β γ)) : Option (β ⊕ Nat) := match o with
  | some (.ret b) => some (.inl b)
  | some (.exc c) => some (.inr c)
  | _ => none
section
variable {P : Program} {w : World} {K : PySem.W.Frag} {mg : Str → Option Value} {base : Heap} {name qual : Str} {params : Arguments} {body : List Stmt} {scope : Scope} {f : Addr} {fd : FuncData} {N ps : List Str} {k : Nat} {β : Type} [Rep β] {fr : Bool} {C : List SV → β ⊕ Nat → Prop} {cls : Nat → Addr}
abbrev cxX (P : Program) (w : World) (K : PySem.W.Frag) (mg : Str → Option Value) (base : Heap) (N : List Str) (qual : Str) (scope : Scope) (f : Addr) (cd : Value) (A : Around) (outer : List Env) (s : Shared) (H : Hp) (E : XK) : Cx := cxOf (L2.CX P w) P w K mg base N qual scope f cd A outer s H E
abbrev xxOf (cls : Nat → Addr) (E : XK) : Nat → Hp → Prop := fun c H => E (.ref (cls c)) none H
theorem fn_okX {γ : Type} {post : γ → List SV} (F : FunD K name qual params body scope [] [] f fd) (S : FnScope N ps scope) (hl : ps.length ≤ N.length) (hC : ∀ l r, C l r → l.length = ps.length)
    (h : ∀ (cdv : Value) (A : Around) (outer : List Env) (s : Shared) (H : Hp) (E : XK), Room k (A.deeper (envOfC qual scope s.heap.objs.size f cdv)) → ∀ l r, C l r →
      ∃ m : Option (Out β γ), retx m = some r ∧ Bs (cxX P w K mg base N qual scope f cdv A outer s H E) (xxOf cls E) (l ++ List.replicate (N.length - l.length) .any) body fr m post) :
    FnOk P w K mg base (L2.CX P w) (k + 1) f fd ps (spX K fr cls C) := by
  refine F.ok S (fun vs H Q E ⟨W, avs, r, _, pr, _, c, _⟩ => pr.len.trans (hC _ _ c)) (fun cdv A outer s H vs Q E hr ⟨W, avs, r, eh, pr, nm, c, q1, q2⟩ => ?_)
  subst eh
  obtain ⟨m, hm, hb⟩ := h cdv A outer s W.h E hr avs r c
  refine ⟨RunSs (cxX P w K mg base N qual scope f cdv A outer s W.h E) body, pss_run, ?_⟩
  have st := sr_start (N := N) (K := K) (by rw [hC _ _ c]; exact hl) pr nm
  unfold retx at hm
  split at hm
  · cases hm
    exact hb.run _ rfl W W.s _ W _ st fun v W' le _ rr hf => q1 _ rfl v W' le rr hf
  · cases hm
    exact hb.run _ rfl W W.s _ W _ st fun W' le => q2 _ rfl W' le
  · cases hm
theorem fn_okX3 {α α' α'' γ : Type} [Rep α] [Rep α'] [Rep α''] {m : α → α' → α'' → Option (Out β γ)} {post : γ → List SV} (F : FunD K name qual params body scope [] [] f fd) (S : FnScope N ps scope) (hl : ps.length ≤ N.length) (h1 : ps.length = 3)
    (h : ∀ (cdv : Value) (A : Around) (outer : List Env) (s : Shared) (H : Hp) (E : XK), Room k (A.deeper (envOfC qual scope s.heap.objs.size f cdv)) → ∀ a b c, Bs (cxX P w K mg base N qual scope f cdv A outer s H E) (xxOf cls E) ([.imm a, .imm b, .imm c] ++ List.replicate (N.length - 3) .any) body fr (m a b c) post) :
    FnOk P w K mg base (L2.CX P w) (k + 1) f fd ps (spX K fr cls (C3 fun a b c => retx (m a b c))) :=
  fn_okX F S hl (fun l r ⟨a, b, c, e, _⟩ => by rw [e, h1]; rfl) fun cdv A outer s H E hr l r ⟨a, b, c, e, hm⟩ => by
    subst e
    exact ⟨m a b c, hm, h cdv A outer s H E hr a b c⟩
theorem fn_okX4 {α α' α'' α3 γ : Type} [Rep α] [Rep α'] [Rep α''] [Rep α3] {m : α → α' → α'' → α3 → Option (Out β γ)} {post : γ → List SV} (F : FunD K name qual params body scope [] [] f fd) (S : FnScope N ps scope) (hl : ps.length ≤ N.length) (h1 : ps.length = 4)
    (h : ∀ (cdv : Value) (A : Around) (outer : List Env) (s : Shared) (H : Hp) (E : XK), Room k (A.deeper (envOfC qual scope s.heap.objs.size f cdv)) → ∀ a b c d, Bs (cxX P w K mg base N qual scope f cdv A outer s H E) (xxOf cls E) ([.imm a, .imm b, .imm c, .imm d] ++ List.replicate (N.length - 4) .any) body fr (m a b c d) post) :
    FnOk P w K mg base (L2.CX P w) (k + 1) f fd ps (spX K fr cls (C4 fun a b c d => retx (m a b c d))) :=
  fn_okX F S hl (fun l r ⟨a, b, c, d, e, _⟩ => by rw [e, h1]; rfl) fun cdv A outer s H E hr l r ⟨a, b, c, d, e, hm⟩ => by
    subst e
    exact ⟨m a b c d, hm, h cdv A outer s H E hr a b c d⟩
end
/-- what the top says of an exception class of the program (under ValueError) that is raised -/
structure ExA (K : PySem.W.Frag) (mg : Str → Option Value) (x : Str) (C : Addr) : Prop where
  g : mg x = some (.ref C)
  xP : PySem.W.excIn K C He.veBase "ValueError.__new__" = true
  kP : PySem.W.keepIn K (.ref C) = true
  bP : PySem.W.subIn K (.ref C) (.type "BaseException") = some true
  tP : PySem.W.typeIn K (.ref C) = some (.type "type")
section
variable {X : Cx} {ρ : List SV} {pos : Pos} {rest : List Stmt} {xx : Nat → Hp → Prop} {β γ : Type} [Rep β] {fr : Bool} {post : γ → List SV}
/-- raise X('..') -/
theorem bs_raise {x m : Str} {j : Nat} {p p2 p3 : Pos} {C : Addr} {E : XK} (c : Nat) (A : ExA X.K X.mg x C) (tk : Takes X (fun cls d _ H => E cls d H)) (hx : ∀ H, xx c H → E (.ref C) none H) (hc : X.calm = true) (hg : Gl X x := by rfl) (hdb : (x == ("__debug__" : Str)) = false := by decide) :
    Bs X xx ρ (.Raise (some (.Call (.Name x p) [.Constant (.str m) j p2] [] p3)) none pos :: rest) (β := β) fr (some (.exc c)) post := .mk fun out ho We B σ W D S k => by
  cases ho
  refine useSs (pss_cons (ps_raise hc tk (pmk_own PySem.F.excBase_ValueError A.xP A.g A.kP (raises_own A.bP A.tP) hg hdb)) pss_run) ?_
  exact hx _ (k W S.le)
/-- an exception that a suite holds -/
structure ExcV where
  a : Addr
end
instance : Rep ExcV := ⟨fun _ _ v x => v = .ref x.a, fun _ h => h⟩
section
variable {X : Cx} {ρ : List SV} {pos : Pos} {e : Expr} {rest : List Stmt} {xx : Nat → Hp → Prop} {β γ : Type} [Rep β] {fr : Bool} {post : γ → List SV}
/-- isinstance(e, C) in the suite that holds e, C a name of the module -/
theorem ep_isE {a D C : Addr} {oe : Obj} {pn : List (Addr × Obj)} {x y : Str} {p1 p2 p3 : Pos} {b : Bool} (i : Nat) (EC : ExcC X.K D) (hz : Zc (.ref D) none oe) (hf : ∃ vs, oe.data = .fields vs) (hm : X.mg "isinstance" = none) (hC : X.mg y = some (.ref C)) (hk : PySem.W.kitOne X.K (.ref D) (.ref C) = some b)
    (hρ : ρ[i]? = some (.imm (ExcV.mk a)) := by rfl) (hN : X.N[i]? = some x := by rfl) (hv : Vis X.env.scope x := by first | exact Or.inl rfl | exact Or.inr (Or.inl rfl) | exact Or.inr (Or.inr rfl)) (hd : (x == ("__debug__" : Str)) = false := by decide)
    (hcd : (x == ("__classdict__" : Str)) = false := by decide) (hg : Gl X "isinstance" := by rfl) (hgy : Gl X y := by rfl) (hdy : (y == ("__debug__" : Str)) = false := by decide) (hpl : (backTo pos (starEach [.Name y p3] X.env)).any (·.1) = false := by rfl) :
    Ep (X.suite a ((a, oe) :: pn)) ρ (.Call (.Name "isinstance" p1) [.Name x p2, .Name y p3] [] pos) (some b) := .mk fun z hz' We B σ W Q S k => by
  cases hz'
  obtain ⟨v, hv1, hv2⟩ := S.imm hρ
  refine useE (pe_callB (call_isE EC hz hf) hg hm (by decide +kernel) (pa_cons (pe_var (X := X.suite a ((a, oe) :: pn)) hN hv hd hcd) (pa_cons (pe_glob (v := .ref C) (X := X.suite a ((a, oe) :: pn)) hgy hC rfl hdy) pa_nil rfl) rfl) (he := rfl) (hpl := hpl)) ?_
  refine ⟨v, hv1, .ref C, .ref C, b, by rw [show v = V.ref a from hv2], fun u r => r, hk, k _ W (.refl W) rfl⟩
/-- .. a built-in class -/
theorem ep_isT {a D : Addr} {oe : Obj} {pn : List (Addr × Obj)} {x y : Str} {t : String} {p1 p2 p3 : Pos} {b : Bool} (i : Nat) (EC : ExcC X.K D) (hz : Zc (.ref D) none oe) (hf : ∃ vs, oe.data = .fields vs) (hm : X.mg "isinstance" = none) (hC : X.mg y = none) (hB : bootBuiltins y = some (.type t)) (hk : PySem.W.kitOne X.K (.ref D) (.type t) = some b)
    (hρ : ρ[i]? = some (.imm (ExcV.mk a)) := by rfl) (hN : X.N[i]? = some x := by rfl) (hv : Vis X.env.scope x := by first | exact Or.inl rfl | exact Or.inr (Or.inl rfl) | exact Or.inr (Or.inr rfl)) (hd : (x == ("__debug__" : Str)) = false := by decide)
    (hcd : (x == ("__classdict__" : Str)) = false := by decide) (hg : Gl X "isinstance" := by rfl) (hgy : Gl X y := by rfl) (hnn : y ≠ "__name__" := by decide) (hdy : (y == ("__debug__" : Str)) = false := by decide) (hpl : (backTo pos (starEach [.Name y p3] X.env)).any (·.1) = false := by rfl) :
    Ep (X.suite a ((a, oe) :: pn)) ρ (.Call (.Name "isinstance" p1) [.Name x p2, .Name y p3] [] pos) (some b) := .mk fun z hz' We B σ W Q S k => by
  cases hz'
  obtain ⟨v, hv1, hv2⟩ := S.imm hρ
  refine useE (pe_callB (call_isE EC hz hf) hg hm (by decide +kernel) (pa_cons (pe_var (X := X.suite a ((a, oe) :: pn)) hN hv hd hcd) (pa_cons (pe_bltn (v := .ty t) (X := X.suite a ((a, oe) :: pn)) hgy hC hB rfl hnn hdy) pa_nil rfl) rfl) (he := rfl) (hpl := hpl)) ?_
  refine ⟨v, hv1, .ty t, .type t, b, by rw [show v = V.ref a from hv2], fun u r => r, hk, k _ W (.refl W) rfl⟩
def retE {β γ : Type} : Option (Out β γ) → Option (Out β γ)
  | some (.ret b) => some (.ret b)
  | some (.exc c) => some (.exc c)
  | _ => none
def tryO {β β' γ : Type} (o : Option (β' ⊕ Nat)) (mr : Option (Out β γ)) (ms : Nat → Option (Out β γ)) : Option (Out β γ) := o.bind fun z => match z with
  | .inl _ => mr
  | .inr c => retE (ms c)
/-- try: f(..) except FE as n: suite that hands back -/
theorem bs_try {β' : Type} [Rep β'] {fr' : Bool} {C : List SV → β' ⊕ Nat → Prop} {cls : Nat → Addr} {k : Nat} {f FE : Addr} {fd : FuncData} {ps : List Str} {x y n : Str} {p1 p2 p3 np pos' : Pos} {a : Expr} {es : List Expr} {b₀ : Stmt} {suite : List Stmt} {oa : Option (List SV)} {o : Option (β' ⊕ Nat)} {ms : Nat → Option (Out β γ)} {mr : Option (Out β γ)} (i : Nat)
    (F : FnOk X.prog X.w X.K X.mg X.base (L2.CX X.prog X.w) k f fd ps (spX X.K fr' cls C)) (hr : Room k X.A) (hm : X.mg x = some (.ref f)) (hk : PySem.W.keepIn X.K (.ref f) = true) (hb : Binds X.K fd ps [])
    (ha : ∀ pn xe, Ag (X.tr pn xe) ρ (a :: es) oa) (hC : ∀ r, o = some r → ∃ l, oa = some l ∧ C l r) (gFE : X.mg y = some (.ref FE)) (hcatch : ∀ c, o = some (.inr c) → PySem.W.exmOne X.K (.ref (cls c)) (.ref FE) = some true) (nd : X.N.Nodup)
    (hsu : ∀ c (a' : Addr) (oe : Obj) (pn : List (Addr × Obj)), Zc (.ref (cls c)) none oe → (∃ vs, oe.data = .fields vs) → Bs (X.suite a' ((a', oe) :: pn)) xx (ρ.set i (.imm (ExcV.mk a'))) (b₀ :: suite) fr (ms c) post) (hrest : Bs X xx ρ rest fr mr post)
    (hi : X.N[i]? = some n := by rfl) (hln : X.env.kindOf n = some .local := by rfl) (hs : X.stack = X.env :: X.outer := by rfl) (hf : X.env.frame = some X.env.locals := by rfl) (hg : Gl X x := by rfl) (hgy : Gl X y := by rfl)
    (hst : NS X a := by intro _; rfl) (hd : (x == ("__debug__" : Str)) = false := by decide) (hdy : (y == ("__debug__" : Str)) = false := by decide) (hpl : (backTo p2 (starEach es X.env)).any (·.1) = false := by rfl) (hsw : swapsWith (.Call (.Name x p1) (a :: es) [] p2) none p3.line X.env = pure false := by rfl) :
    Bs X xx ρ (.Try [.Expr (.Call (.Name x p1) (a :: es) [] p2) p3] [.ExceptHandler (some (.Name y np)) (some n) (b₀ :: suite) pos'] [] [] pos :: rest) fr (tryO o mr ms) post := .mk fun out ho We B σ W D S k' => by
  obtain ⟨z, hz, hf'⟩ := bind_some ho
  obtain ⟨l, hl, hc⟩ := hC z hz
  refine useSs (pss_cons (ps_try_as (c := .ref FE) (tb := fun WW => tDrop (tCallS (spX X.K fr' cls C) (WE WW) (fun σ H Q => ∀ pn xe, RunA (X.tr pn xe) (a :: es) σ H Q)))
    (ts := fun a' cls' d' => fun D σ H => ∀ oe pn, Zc cls' d' oe → (∃ vs, oe.data = .fields vs) → RunSs (X.suite a' ((a', oe) :: pn)) (b₀ :: suite) D σ H) (i := i) (Wout := fun _ _ _ _ => False) hs hf nd hi hln ⟨hgy, hdy, .inl gFE⟩ takes0
    (fun WW pn xe tk hp => pss_one (ps_expr (pe_callS (X := X.tr pn xe) F hr hg hm hk hb (fun σ => passAt tk σ) ⟨fun pos pins s σ H Q I h => h pn xe pos pins s I⟩ hd (hst _) hpl) hsw))
    (fun a' oe cls' d' pn z1 z2 => ⟨fun pins s σ H D I h => h oe pn z1 z2 pins s I⟩)) pss_run) ?_
  intro pn xe
  obtain ⟨nm, h2⟩ := (ha pn xe).run l hl
  refine h2 We B σ W _ S fun vs W1 l1 pr => ?_
  have S1 := S.mono l1
  refine ⟨W1, l, z, rfl, pr, nm, hc, fun r er v W2 l2 r2 _ => ?_, fun c er W2 l2 => ?_⟩
  · subst er
    exact hrest.run out hf' We B σ W2 D (S1.mono l2) k'
  · subst er
    refine ⟨true, hcatch c hz, fun _ a' na oe pn' z1 z2 => ?_, fun q => by cases q⟩
    have hf' : retE (ms c) = some out := hf'
    have S3 : SR X.K We B (ρ.set i (.imm (ExcV.mk a'))) (σ.set i (some (.ref a'))) W2 := (S1.mono l2).set (.refl W2) rfl
    cases hm' : ms c with
    | none =>
      rw [hm'] at hf'
      cases hf'
    | some o1 =>
      rw [hm'] at hf'
      have hb' := hsu c a' oe pn' z1 z2
      rw [hm'] at hb'
      cases o1 with
      | go g => cases hf'
      | ret b =>
        cases hf'
        exact hb'.run _ rfl We B _ W2 _ S3 k'
      | cnt g => cases hf'
      | exc c' =>
        cases hf'
        exact hb'.run _ rfl We B _ W2 _ S3 k'
end
end T
/-! ### the head's facts and own ones -/
namespace He
open PySem PySem.Spec PyProof.Rows L2
def obsX (fa : List Fa) (fn : List DefD) (xb : PySem.W.Frag → Bool) (K : PySem.W.Frag) : AlD := (((fa.all fun f => f.ok K) && fn.all fun d => d.ok K) && xb K, fn.map fun d => fnW K d.at_)
def SaysX (fa : List Fa) (fn : List DefD) (xb : PySem.W.Frag → Bool) (K : PySem.W.Frag) : Prop := obsX fa fn xb K = valD fn
def obsXG (n : Nat) (fa : List Fa) (fn : List DefD) (xb : PySem.W.Frag → Bool) (g : Addr → Option Obj) : AlD := obsX fa fn xb (frG g (asD g n))
def hookX (n : Nat) (fa : List Fa) (fn : List DefD) (xb : PySem.W.Frag → Bool) : PySem.W.Hook where
  α := AlD
  obs := fun s => obsXG n fa fn xb s.heap.get?
  val := fun _ => valD fn
  says := fun _ h => ∃ K : PySem.W.Frag, K.In h ∧ SaysX fa fn xb K
  of := fun _ _ e => ⟨_, frG_in, e⟩
  keeps := fun _ _ _ ⟨K, hK, c⟩ k => ⟨K, PySem.W.Frag.In.keeps hK k, c⟩
theorem obsXG_eq {n : Nat} {fa : List Fa} {fn : List DefD} {xb : PySem.W.Frag → Bool} {g : Addr → Option Obj} {s : Shared} (h : ∀ a, g a = s.heap.get? a) : obsXG n fa fn xb g = (hookX n fa fn xb).obs s := by
  have e : g = s.heap.get? := funext h
  rw [e] <;> rfl
theorem SaysX.both {fa : List Fa} {fn : List DefD} {xb : PySem.W.Frag → Bool} {K : PySem.W.Frag} (c : SaysX fa fn xb K) : SaysD fa fn K ∧ xb K = true := by
  have c1 : (((fa.all fun f => f.ok K) && fn.all fun d => d.ok K) && xb K) = true := congrArg (fun z : AlD => z.1) c
  have c2 : fn.map (fun d => fnW K d.at_) = fn.map DefD.val := congrArg (fun z : AlD => z.2) c
  obtain ⟨h1, h2⟩ := ba c1
  refine ⟨?_, h2⟩
  show (((fa.all fun f => f.ok K) && fn.all fun d => d.ok K), fn.map fun d => fnW K d.at_) = (true, fn.map DefD.val)
  rw [h1, c2]
/-- what isinstance asks of the class at D -/
def excC (K : PySem.W.Frag) (D : Addr) : Bool :=
  decide (PySem.W.findIn K (.ref D) "__getattribute__" = some (some (.builtin "BaseException.__getattribute__"))) && (decide (PySem.W.findIn K (.ref D) "__getattr__" = some none) && (decide (PySem.W.subIn K (.ref D) (.type "BaseException") = some true) && (PySem.W.hasDictIn K D &&
  (decide (PySem.W.findIn K (.ref D) "__class__" = some (some (.builtin "object.__class__"))) && (decide (PySem.W.specialIn K (.builtin "object.__class__") "__get__" = some (some (.builtin "getset_descriptor.__get__"))) && (decide (PySem.W.takesIn K (.builtin "object.__class__") = some true) && decide (PySem.W.mroIn K D (.type "object") = some true)))))))
theorem excC_ok {K : PySem.W.Frag} {D : Addr} (h : excC K D = true) : ExcC K D := by
  obtain ⟨h1, h⟩ := ba h
  obtain ⟨h2, h⟩ := ba h
  obtain ⟨h3, h⟩ := ba h
  obtain ⟨h4, h⟩ := ba h
  obtain ⟨h5, h⟩ := ba h
  obtain ⟨h6, h⟩ := ba h
  obtain ⟨h7, h8⟩ := ba h
  exact ⟨of_decide_eq_true h1, of_decide_eq_true h2, of_decide_eq_true h3, h4, of_decide_eq_true h5, of_decide_eq_true h6, of_decide_eq_true h7, of_decide_eq_true h8⟩
end He
namespace T
open PySem PySem.Spec PyProof.Rows L2
theorem exA_of {K : PySem.W.Frag} {h : Heap} {mg : Str → Option Value} {x : Str} (X : K.In h) (G : h.Ns mainGlobals mg) (c1 : (He.Fa.glo x).ok K = true) (c2 : (He.Fa.exc x).ok K = true) : ExA K mg x (He.ga K x) := by
  obtain ⟨h1, c⟩ := He.ba (show (PySem.W.excIn K (He.ga K x) He.veBase "ValueError.__new__" && (PySem.W.keepIn K (.ref (He.ga K x)) && (decide (PySem.W.subIn K (.ref (He.ga K x)) (.type "BaseException") = some true) && decide (PySem.W.typeIn K (.ref (He.ga K x)) = some (.type "type"))))) = true from c2)
  obtain ⟨h2, c⟩ := He.ba c
  obtain ⟨h3, h4⟩ := He.ba c
  exact ⟨He.glo_ok X G c1, h1, h2, of_decide_eq_true h3, of_decide_eq_true h4⟩
/-- a def of the text, by its name -/
theorem has_of {P : Program} {w : World} {K : PySem.W.Frag} {mg : Str → Option Value} {base : Heap} {k : Nat} {x : Str} {ps : List Str} {sp : Sp} {fd : FuncData} (F : FnOk P w K mg base CX0 k (He.ga K x) fd ps sp) (g : mg x = some (.ref (He.ga K x))) (kp : PySem.W.keepIn K (.ref (He.ga K x)) = true) (b : Binds K fd ps []) : Has P w K mg base k x ps sp := ⟨_, fd, F, g, kp, b⟩
end T
/-! typed layer, sixth part: isinstance, displays walked, lists unpacked, chains -/
namespace T
open PySem PySem.Spec PyProof.Rows L2
open Evl (Ex)
open Rep (rel)

/-- the law's own promise, from the script -/
theorem law_sp {m : Script → Option Bool} (hm : ∀ ns : List Int, ns.length ≤ 63 → m ⟨ns⟩ = some true) {K : PySem.W.Frag} {H : Hp} {a : Addr} {ns : List Int} (hl : ns.length ≤ 63) (hS : SqL K H a (ns.map V.int)) {E : XK} :
    spOf K false (C1 m) [.ref a] H (fun v _ => v = .bl true) E :=
  ⟨⟨H, H, Ex.refl H⟩, [.imm (Script.mk ns)], true, rfl, .cons ⟨a, rfl, hS⟩ .nil, fun x hx => by
    rw [List.mem_singleton.mp hx]
    exact fun z => z, ⟨_, rfl, hm ns hl⟩, fun v W' _ r _ => r⟩
/-- the built-in class of a value -/
class Knd (α : Type) extends Rep α where
  tn : String
  ty : ∀ {K : PySem.W.Frag} {H : Hp} {v : V} {a : α}, rel K H v a → TyOf K H v (.type tn)
instance : Knd Int where
  tn := "int"
  ty := fun {K H v a} h => by
    have h : v = .int a := h
    subst h
    exact .int _
instance : Knd Bool where
  tn := "bool"
  ty := fun {K H v a} h => by
    have h : v = .bl a := h
    subst h
    exact .bl _
instance {α β : Type} [Rep α] [Rep β] : Knd (α × β) where
  tn := "tuple"
  ty := fun h => by
    obtain ⟨p, x, y, rfl, h2, _⟩ := h
    exact .tup h2
instance : Knd Tri where
  tn := "tuple"
  ty := fun h => by
    obtain ⟨p, rfl, h2⟩ := h
    exact .tup h2
instance {α : Type} [Rep α] : Knd (List α) where
  tn := "list"
  ty := fun h => by
    obtain ⟨p, vs, rfl, h2, _⟩ := h
    exact .lst h2
theorem tyOf_mono {K : PySem.W.Frag} {H H' : Hp} {v : V} {t : Value} (e : Ex H H') (h : TyOf K H v t) : TyOf K H' v t := by
  cases h with
  | non => exact .non
  | bl b => exact .bl b
  | int i => exact .int i
  | str x => exact .str x
  | flt b => exact .flt b
  | lst ea => exact .lst (e _ _ ea)
  | frz ea => exact .frz (e _ _ ea)
  | tup ea => exact .tup (e _ _ ea)
  | dK ea => exact .dK (e _ _ ea)
  | dT ea => exact .dT (e _ _ ea)
  | ins ea a b c d f => exact .ins (e _ _ ea) a b c d f
section
variable {X : Cx} {ρ : List SV} {pos : Pos} {e a b c d : Expr} {es : List Expr}
/-- isinstance(x, T), T a built-in class -/
def oisi {α : Type} (x : Option α) (r : Bool) : Option Bool := x.bind fun _ => some r
theorem ep_isi {α : Type} [Knd α] {o : Option α} {y : Str} {t : String} {p1 p3 : Pos} (r : Bool) (hm : X.mg "isinstance" = none) (hy : X.mg y = none) (hB : bootBuiltins y = some (.type t)) (hk : kitB (Knd.tn α) t = some r) (ha : Ep X ρ a o)
    (hg : Gl X "isinstance" := by rfl) (hgy : Gl X y := by rfl) (hst : NS X a := by intro _; rfl) (hnn : y ≠ "__name__" := by decide) (hdy : (y == ("__debug__" : Str)) = false := by decide) (hpl : (backTo pos (starEach [.Name y p3] X.env)).any (·.1) = false := by rfl) :
    Ep X ρ (.Call (.Name "isinstance" p1) [a, .Name y p3] [] pos) (oisi o r) := .mk fun z hz We B σ W Q S k => by
  obtain ⟨x, hx, hf⟩ := bind_some hz
  cases hf
  refine useE (pe_callB call_isi hg hm (by decide +kernel) (pa_cons pe_run (pa_cons (pe_bltn (v := .ty t) hgy hy hB rfl hnn hdy) pa_nil rfl) (hst _)) (he := hst _) (hpl := hpl)) (ha.run x hx We B σ W _ S fun v W1 l1 r1 => ?_)
  exact ⟨v, .ty t, .type (Knd.tn α), .type t, r, rfl, .ty t, .base (tyOf_mono W1.e (Knd.ty r1)), kit_ty hk, k _ W1 l1 rfl⟩
/-- len of a tuple -/
def olen3 (x : Option Tri) : Option Int := x.bind fun _ => some 3
theorem ep_len3 {o : Option Tri} {p1 : Pos} (hg : Gl X "len") (hm : X.mg "len" = none) (ha : Ep X ρ a o) (hst : NS X a := by intro _; rfl) : Ep X ρ (.Call (.Name "len" p1) [a] [] pos) (olen3 o) := .mk fun z hz We B σ W Q S k => by
  obtain ⟨x, hx, hf⟩ := bind_some hz
  cases hf
  refine useE (pe_callB call_len_seq hg hm PySem.boot_len (pa_cons pe_run pa_nil (hst _)) (he := hst _)) (ha.run x hx We B σ W _ S fun v W1 l1 ⟨p, e1, e2⟩ => ?_)
  exact ⟨p, _, by rw [e1], .inr (.of (W1.e _ _ e2)), k _ W1 l1 rfl⟩
def olen2 {α β : Type} (x : Option (α × β)) : Option Int := x.bind fun _ => some 2
theorem ep_len2 {α β : Type} [Rep α] [Rep β] {o : Option (α × β)} {p1 : Pos} (hg : Gl X "len") (hm : X.mg "len" = none) (ha : Ep X ρ a o) (hst : NS X a := by intro _; rfl) : Ep X ρ (.Call (.Name "len" p1) [a] [] pos) (olen2 o) := .mk fun z hz We B σ W Q S k => by
  obtain ⟨x, hx, hf⟩ := bind_some hz
  cases hf
  refine useE (pe_callB call_len_seq hg hm PySem.boot_len (pa_cons pe_run pa_nil (hst _)) (he := hst _)) (ha.run x hx We B σ W _ S fun v W1 l1 ⟨p, y, w, e1, e2, _⟩ => ?_)
  exact ⟨p, _, by rw [e1], .inr (.of (W1.e _ _ e2)), k _ W1 l1 rfl⟩
/-- a == b == c of whole numbers, as a test -/
def oeq3 (x y z : Option Int) : Option Bool := x.bind fun i => y.bind fun j => if i = j then z.bind fun k => some (decide (j = k)) else some false
theorem tp_eq3 {oa ob oc : Option Int} (ha : Ep X ρ a oa) (hb : Ep X ρ b ob) (hc : Ep X ρ c oc) (hm : lastMarks [CmpOp.Eq, CmpOp.Eq] [b, c] = false := by rfl) : Tp X ρ (.Compare a [.Eq, .Eq] [b, c] pos) (oeq3 oa ob oc) := .mk fun z hz We B σ W Q S k => by
  obtain ⟨x, hx, hz⟩ := bind_some hz
  obtain ⟨y, hy, hz⟩ := bind_some hz
  refine useT (pt_chain op_eq op_eq pe_run pe_run pe_run (hm := hm)) (ha.run x hx We B σ W _ S fun v W1 l1 r1 => hb.run y hy We B σ W1 _ (S.mono l1) fun u W2 l2 r2 => ?_)
  cases r1
  cases r2
  refine ⟨rfl, _, rfl, ?_⟩
  have ed : decide (V.int x = V.int y) = decide (x = y) := dec_val (α := Int) x y
  rw [ed]
  by_cases h : x = y
  · rw [if_pos h] at hz
    rw [decide_eq_true h]
    obtain ⟨w, hw, hz⟩ := bind_some hz
    cases hz
    refine iteT (hc.run w hw We B σ W2 _ (S.mono (l1.trans l2)) fun t W3 l3 r3 => ?_)
    cases r3
    refine ⟨rfl, _, rfl, ?_⟩
    have ed2 : decide (V.int y = V.int w) = decide (y = w) := dec_val (α := Int) y w
    rw [ed2]
    exact k W3 ((l1.trans l2).trans l3)
  · rw [if_neg h] at hz
    cases hz
    rw [decide_eq_false h]
    exact iteF ⟨_, rfl, k W2 (l1.trans l2)⟩
end
/-! a list unpacked -/
theorem tg_lst3 {K : PySem.W.Frag} {α : Type} [Rep α] (i j l : Nat) (a : List α) (x y z : α) (ha : a = [x, y, z]) (We : Wd) (B : Hp) (ρ : List SV) (σ : L2.St) (W : Wd) (v : V) (Q : L2.St → Hp → Prop) (S : SR K We B ρ σ W) (r : rel K W.s v a)
    (k : ∀ σ', SR K We B (((ρ.set i (.imm x)).set j (.imm y)).set l (.imm z)) σ' W → Q σ' W.h) : gLst K 3 (gCons (gName i) (gCons (gName j) (gCons (gName l) gNil))) v σ W.h Q := by
  subst ha
  obtain ⟨p, vs, e1, e2, r⟩ := r
  match vs, r with
  | [_, _, _], .cons r1 (.cons r2 (.cons r3 .nil)) =>
    exact ⟨p, _, e1, .of (W.e _ _ e2), rfl, _, _, rfl, _, _, rfl, _, [], rfl, rfl, k _ (((S.set (.refl W) r1).set (.refl W) r2).set (.refl W) r3)⟩
theorem tg_lst4 {K : PySem.W.Frag} {α : Type} [Rep α] (i j l n : Nat) (a : List α) (x y z u : α) (ha : a = [x, y, z, u]) (We : Wd) (B : Hp) (ρ : List SV) (σ : L2.St) (W : Wd) (v : V) (Q : L2.St → Hp → Prop) (S : SR K We B ρ σ W) (r : rel K W.s v a)
    (k : ∀ σ', SR K We B ((((ρ.set i (.imm x)).set j (.imm y)).set l (.imm z)).set n (.imm u)) σ' W → Q σ' W.h) : gLst K 4 (gCons (gName i) (gCons (gName j) (gCons (gName l) (gCons (gName n) gNil)))) v σ W.h Q := by
  subst ha
  obtain ⟨p, vs, e1, e2, r⟩ := r
  match vs, r with
  | [_, _, _, _], .cons r1 (.cons r2 (.cons r3 (.cons r4 .nil))) =>
    exact ⟨p, _, e1, .of (W.e _ _ e2), rfl, _, _, rfl, _, _, rfl, _, _, rfl, _, [], rfl, rfl, k _ ((((S.set (.refl W) r1).set (.refl W) r2).set (.refl W) r3).set (.refl W) r4)⟩
section
variable {X : Cx} {ρ : List SV} {pos : Pos} {e a b c d : Expr} {es : List Expr} {rest : List Stmt} {xx : Nat → Hp → Prop} {β γ : Type} [Rep β] {fr : Bool} {post : γ → List SV}
def unl3 {α δ : Type} (a : List α) (f : α → α → α → Option δ) : Option δ := match a with
  | [x, y, z] => f x y z
  | _ => none
def unl4 {α δ : Type} (a : List α) (f : α → α → α → α → Option δ) : Option δ := match a with
  | [x, y, z, u] => f x y z u
  | _ => none
theorem bs_unl3 {α : Type} [Rep α] {tg : Expr} {o : Option (List α)} {f : α → α → α → Option (Out β γ)} (i j l : Nat) (hg : PG X tg (gLst X.K 3 (gCons (gName i) (gCons (gName j) (gCons (gName l) gNil))))) (he : Ep X ρ e o)
    (hr : ∀ x y z, Bs X xx (((ρ.set i (.imm x)).set j (.imm y)).set l (.imm z)) rest fr (f x y z) post)
    (hs : swapsWithSole [tg] e pos.line X.env = pure false := by rfl) (hw : swappedStores [tg] e X.env = pure none := by rfl) (h1 : (assignEach [tg] X.env).map (·.2) = [assign tg X.env] := by rfl) : Bs X xx ρ (.Assign [tg] e pos :: rest) fr (o.bind fun a => unl3 a f) post := .mk fun out ho We B σ W D S k => by
  obtain ⟨y, hy, hf'⟩ := bind_some ho
  unfold unl3 at hf'
  split at hf'
  · refine useSs (pss_cons (ps_asg pe_run hg hs hw h1) pss_run) (he.run _ hy We B σ W _ S fun v W1 l1 r1 => ?_)
    exact tg_lst3 i j l _ _ _ _ rfl We B ρ σ W1 v _ (S.mono l1) r1 fun σ' S' => (hr _ _ _).run out hf' We B σ' W1 D S' k
  · cases hf'
theorem bs_unl4 {α : Type} [Rep α] {tg : Expr} {o : Option (List α)} {f : α → α → α → α → Option (Out β γ)} (i j l n : Nat) (hg : PG X tg (gLst X.K 4 (gCons (gName i) (gCons (gName j) (gCons (gName l) (gCons (gName n) gNil)))))) (he : Ep X ρ e o)
    (hr : ∀ x y z u, Bs X xx ((((ρ.set i (.imm x)).set j (.imm y)).set l (.imm z)).set n (.imm u)) rest fr (f x y z u) post)
    (hs : swapsWithSole [tg] e pos.line X.env = pure false := by rfl) (hw : swappedStores [tg] e X.env = pure none := by rfl) (h1 : (assignEach [tg] X.env).map (·.2) = [assign tg X.env] := by rfl) : Bs X xx ρ (.Assign [tg] e pos :: rest) fr (o.bind fun a => unl4 a f) post := .mk fun out ho We B σ W D S k => by
  obtain ⟨y, hy, hf'⟩ := bind_some ho
  unfold unl4 at hf'
  split at hf'
  · refine useSs (pss_cons (ps_asg pe_run hg hs hw h1) pss_run) (he.run _ hy We B σ W _ S fun v W1 l1 r1 => ?_)
    exact tg_lst4 i j l n _ _ _ _ _ rfl We B ρ σ W1 v _ (S.mono l1) r1 fun σ' S' => (hr _ _ _ _).run out hf' We B σ' W1 D S' k
  · cases hf'
/-! tuples walked -/
/-- e is a tuple of things of one kind -/
structure Up (X : Cx) (ρ : List SV) (e : Expr) {α : Type} [Rep α] (o : Option (List α)) : Prop where
  run : ∀ a, o = some a → ∀ (We : Wd) (B : Hp) (σ : L2.St) (W : Wd) (Q : VK), SR X.K We B ρ σ W → (∀ p vs W', W.Le W' → W'.s p = some (.tup vs) → Paired (fun v x => rel X.K W'.s v x) vs a → Q (.ref p) W'.h) → RunE X e σ W.h Q
theorem up_tup {α : Type} [Rep α] {o : Option (List α)} {x1} (h : Al X ρ es o) (hl : Nat.ble es.length 1000 = true := by rfl) : Up X ρ (.Tuple es x1 pos) o := .mk fun z hz We B σ W Q S k => by
  obtain ⟨h1, h2⟩ := h.run z hz
  refine useE (pe_tup pa_run) (h2 We B σ W _ S fun vs W1 l1 r1 => ⟨?_, fun p hp => ?_⟩)
  · rw [plen r1, h1]
    exact Nat.le_trans (Nat.le_of_ble_eq_true hl) (by decide)
  · have l2 := Wd.Le.new W1 (.tup vs) hp
    exact k p vs (W1.new p _) (l1.trans l2) upd_same (pmono (fun _ _ h => Rep.mono l2.s h) r1)
def otl (x : Option Tri) : Option (List Int) := x.bind fun t => some [t.a, t.b, t.c]
theorem up_tri {o : Option Tri} (h : Ep X ρ e o) : Up X ρ e (otl o) := .mk fun z hz We B σ W Q S k => by
  obtain ⟨x, hx, hf⟩ := bind_some hz
  cases hf
  exact h.run x hx We B σ W Q S fun v W1 l1 ⟨p, e1, e2⟩ => by
    subst e1
    exact k p _ W1 l1 e2 (.cons rfl (.cons rfl (.cons rfl .nil)))
theorem bs_forT {α γ1 : Type} [Rep α] {tg iter : Expr} {body : List Stmt} {g : TG} {js : List Nat} {up : α → List SV → List SV} {o : Option (List α)} {f : α → γ1 → Option (Out β γ1)} {m : γ1 → Option (Out β γ)} (P : γ1 → List SV) (g0 : γ1)
    (hg : PG X tg g) (ht : TgR X.K g js up) (hi : Up X ρ iter o) (h0 : Wk ρ (P g0)) (hb : ∀ x g, Bs X xx (up x (P g)) body fr (f x g) P) (hr : ∀ g, Bs X xx (P g) rest fr (m g) post)
    (hp : PassesOwn (model X.prog X.w) X.A X.env X.xe) (hc : X.calm = true) (hs : ∀ x, foldedSetIterable iter X.env x = pure x := by intro _; rfl) :
    Bs X xx ρ (.For tg iter body [] pos :: rest) fr (o.bind fun xs => thenO (loopL f xs g0) m) post := .mk fun out ho We B σ W D S k => by
  obtain ⟨xs, hxs, ho⟩ := bind_some ho
  obtain ⟨o1, h1, hf⟩ := bind_some ho
  refine useSs (pss_cons (ps_for hp hc (pi_tup pe_run) hg pss_run hs) pss_run) (hi.run xs hxs We B σ W _ S fun p vs W1 l1 hp1 r1 => ?_)
  refine ⟨p, rfl, ⟨vs, .of (W1.e _ _ hp1)⟩, for_tup (xs := vs) (fun i σ' H' => ∃ g' W', H' = W'.h ∧ SR X.K We W1.s (P g') σ' W' ∧ loopL f (xs.drop i) g' = some o1) ?_ ?_ ?_ ?_⟩
  · exact ⟨g0, W1, rfl, ((S.mono l1).rebase (Ex.refl _)).wk h0, h1⟩
  · rintro i σ' H' _ ⟨g', W', rfl, S', _⟩
    exact .of (W'.e _ _ (S'.b _ _ hp1))
  · rintro i v σ' H' hv ⟨g', W', rfl, S', hl⟩
    obtain ⟨x, hx, rx⟩ := pget' r1 hv
    rw [drop_get hx] at hl
    obtain ⟨o2, h2, hl⟩ := bind_some hl
    refine ht.run x We W1.s _ σ' W' v _ S' (Rep.mono S'.b rx) fun σ2 S2 _ => ?_
    refine (hb x g').run o2 h2 We W1.s σ2 W' _ S2 ?_
    cases o2 with
    | ret b =>
      cases hl
      cases hf
      exact fun v' W2 l2 b2 r2 q2 => k v' W2 l2 (((S.b.trans l1.s)).trans b2) r2 q2
    | go g2 => exact fun σ3 W3 S3 => ⟨g2, W3, rfl, S3, hl⟩
    | cnt g2 => exact fun σ3 W3 S3 => ⟨g2, W3, rfl, S3, hl⟩
    | exc c =>
      cases hl
      cases hf
      exact k
  · rintro σ' H' ⟨g', W', rfl, S', hl⟩
    rw [plen r1, List.drop_length] at hl
    cases hl
    exact (hr g').run out hf We B σ' W' D (S'.rebase (((S.b.trans l1.s)).trans S'.b)) k
variable {elt tg iter : Expr} {ifs : List Expr} {scope : Scope}
theorem lc_T {α β : Type} [Rep α] [Rep β] {g : TG} {js : List Nat} {up : α → List SV → List SV} {oxs : Option (List α)} {oc : α → Option Bool} {f : α → Option β} {tt : TT} (own : List (Str × Nat)) (ok : BlkOk X.N X.env.scope scope own) (hi : Up X ρ iter oxs)
    (hg : ∀ (s : Shared) (H : Hp) (C : Addr) (cl : List (Str × Addr)) (fp : List Addr), PG (X.blk s H scope (compEnvC scope cl C X.env) fp) tg g) (ht : TgR X.K g js up) (hjs : ∀ j ∈ js, j ∈ own.map (·.2))
    (hpt : ∀ (s : Shared) (H : Hp) (C : Addr) (cl : List (Str × Addr)) (fp : List Addr), PTs (X.blk s H scope (compEnvC scope cl C X.env) fp) ifs tt)
    (hts : ∀ x b, oc x = some b → ∀ (We : Wd) (B : Hp) (σ : L2.St) (W : Wd) (Q : Bool → Hp → Prop), SR X.K We B (up x (wipeS ρ (own.map (·.2)))) σ W → (∀ W', W.Le W' → Q b W'.h) → tt σ W.h Q)
    (he : ∀ x (s : Shared) (H : Hp) (C : Addr) (cl : List (Str × Addr)) (fp : List Addr), Ep (X.blk s H scope (compEnvC scope cl C X.env) fp) (up x (wipeS ρ (own.map (·.2)))) elt (f x)) (hs : ∀ x, foldedSetIterable iter X.env x = pure x) :
    LcOk X ρ elt tg iter ifs scope (oxs.bind fun xs => if capOk xs.length then lcM oc f xs else none) := ⟨_, g, tt, tElt X scope elt, own, pi_tup pe_run, ok, hg, hpt, fun s H C cl fp => ⟨fun pins s' σ' H' Q' I h => h s H C cl fp pins s' I⟩, hs, fun all hall We B σ W Q S k => by
  obtain ⟨xs, hxs, hm⟩ := bind_some hall
  split at hm
  · rename_i hcap
    refine hi.run xs hxs We B σ W _ S fun p vs W1 l1 hp r1 => ?_
    refine ⟨p, rfl, ⟨vs, .of (W1.e _ _ hp)⟩, fun D hD => ?_⟩
    refine lc_tup (g := g) (tt := tt) (te := tElt X scope elt) (σ := σ) (vs := own.map (·.2)) (Qd := fun H => Q (.ref D) H) (xs := vs) (LcP X.K We B ρ σ W1 D oc f xs all) (lcp_start hD hm) ?_ ?_ ?_
    · rintro i H _ ⟨W', us, ys, zs, rfl, l2, _⟩
      exact .of (l2.h _ _ (W1.e _ _ hp))
    · intro i v H hv pv
      obtain ⟨x, hx, rx⟩ := pget' r1 hv
      exact lcp_turn hD hx hcap (S.mono l1) rx ht hjs (fun b hb => hts x b hb) (fun y hy We' B' σ' W' Q' S' k' s H0 C cl fp => (he x s H0 C cl fp).run y hy We' B' σ' W' Q' S' k') pv
    · intro H pv
      rw [plen r1] at pv
      exact lcp_end l1 hD pv k
  · cases hm⟩
end
end T
/-! plain sums over the mirrors' operations -/
namespace T
/-! ### sizes -/
def bd (n : Nat) (x : Int) : Prop := x.natAbs < 2 ^ n
theorem bd_mono {n m : Nat} {x : Int} (h : bd n x) (k : n ≤ m) : bd m x := Nat.lt_of_lt_of_le h (Nat.pow_le_pow_right (by decide) k)
theorem bd_add {n m : Nat} {x y : Int} (h1 : bd n x) (h2 : bd m y) : bd (max n m + 1) (x + y) := by
  have e1 := bd_mono h1 (Nat.le_max_left n m)
  have e2 := bd_mono h2 (Nat.le_max_right n m)
  unfold bd at e1 e2 ⊢
  rw [Nat.pow_succ]
  omega
theorem bd_sub {n m : Nat} {x y : Int} (h1 : bd n x) (h2 : bd m y) : bd (max n m + 1) (x - y) := by
  have e1 := bd_mono h1 (Nat.le_max_left n m)
  have e2 := bd_mono h2 (Nat.le_max_right n m)
  unfold bd at e1 e2 ⊢
  rw [Nat.pow_succ]
  omega
theorem bd_mul {n m : Nat} {x y : Int} (h1 : bd n x) (h2 : bd m y) : bd (n + m) (x * y) := by
  unfold bd at h1 h2 ⊢
  rw [Int.natAbs_mul, Nat.pow_add]
  exact Nat.mul_lt_mul'' h1 h2
theorem bd_neg {n : Nat} {x : Int} (h : bd n x) : bd n (-x) := by
  unfold bd at h ⊢
  rw [Int.natAbs_neg]
  exact h
theorem bd_of {n : Nat} {x B : Int} (h1 : -B ≤ x) (h2 : x ≤ B) (h : B.toNat < 2 ^ n) : bd n x := by
  unfold bd
  omega
/-! ### the operations -/
theorem oadd_s (a b : Int) : oadd (some a) (some b) = some (a + b) := rfl
theorem osub_s (a b : Int) : osub (some a) (some b) = some (a - b) := rfl
theorem oneg_s (a : Int) : oneg (some a) = some (-a) := rfl
theorem omul_L {a : Int} (b : Int) (h1 : -(2 ^ 64) < a) (h2 : a < 2 ^ 64) : omul (some a) (some b) = some (a * b) := by
  show (if mulOk a b = true then some (a * b) else none) = _
  rw [if_pos]
  unfold mulOk
  rw [decide_eq_true h1, decide_eq_true h2]
  rfl
theorem omul_R {b : Int} (a : Int) (h1 : -(2 ^ 64) < b) (h2 : b < 2 ^ 64) : omul (some a) (some b) = some (a * b) := by
  show (if mulOk a b = true then some (a * b) else none) = _
  rw [if_pos]
  unfold mulOk
  rw [decide_eq_true h1, decide_eq_true h2]
  simp
theorem small_of {n : Nat} {a : Int} (h : bd n a) (k : n ≤ 600) : smallI a = true := by
  unfold smallI
  exact decide_eq_true (bd_mono h k)
theorem omul_b {n m : Nat} {a b : Int} (h1 : bd n a) (h2 : bd m b) (k1 : n ≤ 600 := by decide) (k2 : m ≤ 600 := by decide) : omul (some a) (some b) = some (a * b) := by
  show (if mulOk a b = true then some (a * b) else none) = _
  rw [if_pos]
  unfold mulOk
  rw [small_of h1 k1, small_of h2 k2]
  simp
theorem omod_s {b : Int} (a : Int) (h : 0 < b) : omod (some a) (some b) = some (a % b) := by
  show (if decide (0 < b) = true then some (a % b) else none) = _
  rw [if_pos (decide_eq_true h)]
theorem ofdiv_s {n : Nat} {b : Int} (a : Int) (h0 : b ≠ 0) (h : bd n b) (k : n ≤ 600 := by decide) : ofdiv (some a) (some b) = some (a.fdiv b) := by
  show (if divOk a b = true then some (a.fdiv b) else none) = _
  rw [if_pos]
  unfold divOk
  rw [decide_eq_true h0, small_of h k]
  rfl
theorem ofdiv_p {b : Int} (a : Int) (h0 : 0 < b) (h : b < 2 ^ 600) : ofdiv (some a) (some b) = some (a / b) := by
  rw [ofdiv_s (n := 600) a (by omega) (by unfold bd; omega), Int.fdiv_eq_ediv_of_nonneg a (by omega)]
theorem opow2_b {n : Nat} {a : Int} (h : bd n a) (k : n ≤ 64 := by decide) : opow (some a) (some (2 : Int)) = some (a * a) := by
  show (if powOk a 2 = true then some (a ^ (2 : Int).toNat) else none) = _
  have e := bd_mono h k
  rw [if_pos]
  · show some (a ^ 2) = _
    rw [Int.pow_succ, Int.pow_succ, Int.pow_zero, Int.one_mul]
  · unfold powOk
    unfold bd at e
    simp only [Bool.and_eq_true, decide_eq_true_eq]
    exact ⟨⟨by decide, by decide⟩, e⟩
theorem ob2i_s (b : Bool) : ob2i (some b) = some (if b then 1 else 0) := rfl
theorem olt_s (a b : Int) : olt (some a) (some b) = some (decide (a < b)) := rfl
theorem ole_s (a b : Int) : ole (some a) (some b) = some (decide (a ≤ b)) := rfl
theorem ogt_s (a b : Int) : ogt (some a) (some b) = some (decide (b < a)) := rfl
theorem oge_s (a b : Int) : oge (some a) (some b) = some (decide (b ≤ a)) := rfl
theorem oeq_s {α : Type} [DecidableEq α] (a b : α) : oeq (some a) (some b) = some (decide (a = b)) := rfl
theorem one_s {α : Type} [DecidableEq α] (a b : α) : one_ (some a) (some b) = some (!decide (a = b)) := rfl
theorem omk2_s {α β : Type} (a : α) (b : β) : omk2 (some a) (some b) = some (a, b) := rfl
theorem omk3_s (a b c : Int) : omk3 (some a) (some b) (some c) = some ⟨a, b, c⟩ := rfl
theorem ofst_s {α β : Type} (a : α × β) : ofst (some a) = some a.1 := rfl
theorem osnd_s {α β : Type} (a : α × β) : osnd (some a) = some a.2 := rfl
theorem ocons_s {α : Type} (a : α) (l : List α) : ocons (some a) (some l) = some (a :: l) := rfl
theorem olen_s {α : Type} (l : List α) : olen (some l) = some (l.length : Int) := rfl
theorem oslen_s (s : Script) : oslen (some s) = some (s.ns.length : Int) := rfl
theorem onot_s (b : Bool) : onot (some b) = some (!b) := rfl
theorem oand_s (a : Bool) (y : Option Bool) : oand (some a) y = if a then y else some false := rfl
theorem oor_s (a : Bool) (y : Option Bool) : oor (some a) y = if a then some true else y := rfl
theorem oand_ss (a b : Bool) : oand (some a) (some b) = some (a && b) := by cases a <;> rfl
theorem oor_ss (a b : Bool) : oor (some a) (some b) = some (a || b) := by cases a <;> rfl
theorem oisi_s {α : Type} (a : α) (r : Bool) : oisi (some a) r = some r := rfl
theorem oin_s {α : Type} [DecidableEq α] (a : α) (l : List α) : oin (some a) (some l) = some (decide (a ∈ l)) := rfl
theorem onin_s {α : Type} [DecidableEq α] (a : α) (l : List α) : onin (some a) (some l) = some (!decide (a ∈ l)) := rfl
theorem oite_s {α : Type} (c : Bool) (x y : Option α) : oite (some c) x y = if c then x else y := rfl
theorem oret_s {α γ : Type} (a : α) : (oret (some a) : Option (Out α γ)) = some (.ret a) := rfl
theorem bind_s {α β : Type} (a : α) (f : α → Option β) : Option.bind (some a) f = f a := rfl
theorem bind2_s {α β γ : Type} (a : α) (b : β) (f : α → β → Option γ) : bind2 (some a) (some b) f = f a b := rfl
theorem bind3_s {α β γ δ : Type} (a : α) (b : β) (c : γ) (f : α → β → γ → Option δ) : bind3 (some a) (some b) (some c) f = f a b c := rfl
theorem bind4_s {α β γ δ ε : Type} (a : α) (b : β) (c : γ) (d : δ) (f : α → β → γ → δ → Option ε) : bind4 (some a) (some b) (some c) (some d) f = f a b c d := rfl
theorem noGo_ret {β γ : Type} (b : β) : (noGo (some (.ret b)) : Option (Out β γ)) = some (.ret b) := rfl
theorem noGo_exc {β γ : Type} (c : Nat) : (noGo (some (.exc c)) : Option (Out β γ)) = some (.exc c) := rfl
theorem retv_ret {β γ : Type} (b : β) : retv (some (.ret b : Out β γ)) = some b := rfl
theorem retx_ret {β γ : Type} (b : β) : retx (some (.ret b : Out β γ)) = some (.inl b) := rfl
theorem retx_exc {β γ : Type} (c : Nat) : retx (some (.exc c : Out β γ)) = some (.inr c) := rfl
theorem thenO_go {β γ γ' : Type} (g : γ) (k : γ → Option (Out β γ')) : thenO (some (.go g)) k = k g := rfl
theorem thenO_ret {β γ γ' : Type} (b : β) (k : γ → Option (Out β γ')) : thenO (some (.ret b : Out β γ)) k = some (.ret b) := rfl
theorem loopL_nil {α β γ : Type} (f : α → γ → Option (Out β γ)) (g : γ) : loopL f [] g = some (.go g) := rfl
theorem loopL_go {α β γ : Type} {f : α → γ → Option (Out β γ)} {x : α} {r : List α} {g g' : γ} (h : f x g = some (.go g')) : loopL f (x :: r) g = loopL f r g' := by
  show (f x g).bind _ = _
  rw [h]
  rfl
theorem loopL_cnt {α β γ : Type} {f : α → γ → Option (Out β γ)} {x : α} {r : List α} {g g' : γ} (h : f x g = some (.cnt g')) : loopL f (x :: r) g = loopL f r g' := by
  show (f x g).bind _ = _
  rw [h]
  rfl
theorem loopL_ret {α β γ : Type} {f : α → γ → Option (Out β γ)} {x : α} {r : List α} {g : γ} {b : β} (h : f x g = some (.ret b)) : loopL f (x :: r) g = some (.ret b) := by
  show (f x g).bind _ = _
  rw [h]
  rfl
theorem cap_s {α : Type} {l : List α} (h : l.length ≤ 1000000) : cap l = some l := by
  unfold cap
  rw [if_pos (show capOk l.length = true from decide_eq_true h)]
theorem ocat_s {α : Type} {a b : List α} (h : a.length + b.length ≤ 1000000) : ocat (some a) (some b) = some (a ++ b) := cap_s (by rw [List.length_append]; exact h)
theorem oapp_s {α : Type} {l : List α} {a : α} (h : l.length ≤ 1000000) : oapp l (some a) = some (l ++ [a]) := by
  show (if capOk l.length = true then _ else _) = _
  rw [if_pos (show capOk l.length = true from decide_eq_true h)]
theorem orng_s {n : Int} (h1 : -1000000 ≤ n) (h2 : n ≤ 1000000) : orng (some n) = some (rngL n) := by
  show (if rngOk n = true then _ else _) = _
  rw [if_pos]
  unfold rngOk
  rw [decide_eq_true h1, decide_eq_true h2]
  rfl
theorem oidx_s {α : Type} (l : List α) (i : Int) : oidx (some l) (some i) = L2.atI l i := rfl
theorem atI_pos {α : Type} {l : List α} {i : Int} (h : 0 ≤ i) : L2.atI l i = l[i.toNat]? := by
  unfold L2.atI L2.ixN
  rw [if_pos h]
  by_cases hl : i < l.length
  · rw [if_pos hl]
    rfl
  · rw [if_neg hl, List.getElem?_eq_none (by omega)]
    rfl
theorem atI_neg {α : Type} {l : List α} {i : Int} (h : i < 0) (h2 : -(l.length : Int) ≤ i) : L2.atI l i = l[(i + l.length).toNat]? := by
  unfold L2.atI L2.ixN
  rw [if_neg (by omega), if_pos h2]
  rfl
theorem lcM_map {α β : Type} (f : α → β) (g : α → Option β) : ∀ l : List α, (∀ x ∈ l, g x = some (f x)) → lcM oYes g l = some (l.map f)
  | [], _ => rfl
  | x :: r, h => by
    show (Option.bind (some true) fun b => if b then (g x).bind fun y => (lcM oYes g r).bind fun ys => some (y :: ys) else lcM oYes g r) = _
    rw [bind_s, if_pos rfl, h x (List.mem_cons_self ..), lcM_map f g r fun y hy => h y (List.mem_cons_of_mem _ hy)]
    rfl
theorem lcM_filter {α β : Type} (p : α → Bool) (f : α → β) (c : α → Option Bool) (g : α → Option β) : ∀ l : List α, (∀ x ∈ l, c x = some (p x)) → (∀ x ∈ l, p x = true → g x = some (f x)) → lcM c g l = some ((l.filter p).map f)
  | [], _, _ => rfl
  | x :: r, h1, h2 => by
    have ih := lcM_filter p f c g r (fun y hy => h1 y (List.mem_cons_of_mem _ hy)) fun y hy => h2 y (List.mem_cons_of_mem _ hy)
    show ((c x).bind fun b => if b then (g x).bind fun y => (lcM c g r).bind fun ys => some (y :: ys) else lcM c g r) = _
    rw [h1 x (List.mem_cons_self ..), ih, bind_s]
    cases hp : p x with
    | true => rw [if_pos rfl, h2 x (List.mem_cons_self ..) hp, List.filter_cons_of_pos hp]; rfl
    | false => rw [if_neg Bool.false_ne_true, List.filter_cons_of_neg (by rw [hp]; exact Bool.false_ne_true)]
/-- a point within B either way -/
def box (B : Int) (p : Int × Int) : Prop := -B ≤ p.1 ∧ p.1 ≤ B ∧ -B ≤ p.2 ∧ p.2 ≤ B
end T
/-! plain geometry: areas, distances, rings -/
namespace T
abbrev Pt := Int × Int
theorem ofdiv_q {b : Int} (a : Int) (h0 : 0 < b) (h : b < 18446744073709551616) : ofdiv (some a) (some b) = some (a / b) := by
  rw [ofdiv_s (n := 64) a (by omega) (by unfold bd; omega), Int.fdiv_eq_ediv_of_nonneg a (by omega)]
instance (B : Int) (p : Pt) : Decidable (box B p) := inferInstanceAs (Decidable (_ ∧ _ ∧ _ ∧ _))
theorem box_mono {B C : Int} {p : Pt} (h : box B p) (k : B ≤ C) : box C p := by
  obtain ⟨h1, h2, h3, h4⟩ := h
  exact ⟨by omega, by omega, by omega, by omega⟩
/-- a point whose two numbers are short -/
def pb (p : Pt) : Prop := bd 40 p.1 ∧ bd 40 p.2
theorem pb_of {B : Int} {p : Pt} (h : box B p) (k : B ≤ 1000000000 := by decide) : pb p := by
  obtain ⟨h1, h2, h3, h4⟩ := h
  exact ⟨bd_of (B := 1000000000) (by omega) (by omega) (by decide), bd_of (B := 1000000000) (by omega) (by omega) (by decide)⟩
theorem bd_add' {n : Nat} {x y : Int} (h1 : bd n x) (h2 : bd n y) : bd (n + 1) (x + y) := by
  have := bd_add h1 h2
  rwa [Nat.max_self] at this
theorem bd_sub' {n : Nat} {x y : Int} (h1 : bd n x) (h2 : bd n y) : bd (n + 1) (x - y) := by
  have := bd_sub h1 h2
  rwa [Nat.max_self] at this
/-- twice the area of a, b, c, and its sign says which way they turn -/
def area (a b c : Pt) : Int := (b.1 - a.1) * (c.2 - a.2) - (b.2 - a.2) * (c.1 - a.1)
def far (a b : Pt) : Int := (a.1 - b.1) * (a.1 - b.1) + (a.2 - b.2) * (a.2 - b.2)
/-- positive where d lies in the ring through a, b, c that turn left -/
def rings (a b c d : Pt) : Int := far a d * area d b c + far b d * area d c a + far c d * area d a b
def sgn (x : Int) : Int := (if decide (0 < x) then 1 else 0) - (if decide (x < 0) then 1 else 0)
theorem sgn_eq (x : Int) : sgn x = x.sign := by
  unfold sgn
  rcases Int.lt_trichotomy x 0 with h | h | h
  · rw [if_neg (by rw [decide_eq_true_eq]; omega), if_pos (decide_eq_true h), Int.sign_eq_neg_one_of_neg h]; rfl
  · subst h; rfl
  · rw [if_pos (decide_eq_true h), if_neg (by rw [decide_eq_true_eq]; omega), Int.sign_eq_one_of_pos h]; rfl
theorem sgn_mul (x y : Int) : sgn (x * y) = sgn x * sgn y := by rw [sgn_eq, sgn_eq, sgn_eq, Int.sign_mul]
theorem sgn_neg (x : Int) : sgn (-x) = -sgn x := by rw [sgn_eq, sgn_eq, Int.sign_neg]
theorem sgn_pos {x : Int} (h : 0 < x) : sgn x = 1 := by rw [sgn_eq, Int.sign_eq_one_of_pos h]
theorem sgn_zero : sgn 0 = 0 := rfl
theorem sgn_bd (x : Int) : -1 ≤ sgn x ∧ sgn x ≤ 1 := by
  unfold sgn
  by_cases h : decide (0 < x) = true <;> by_cases k : decide (x < 0) = true <;> simp only [h, k, if_true, if_false] <;> decide
theorem sgn_eq0 {x : Int} : sgn x = 0 ↔ x = 0 := by rw [sgn_eq]; exact Int.sign_eq_zero_iff_zero
theorem bd_area {a b c : Pt} (ha : pb a) (hb : pb b) (hc : pb c) : bd 83 (area a b c) :=
  bd_sub' (bd_mul (bd_sub' hb.1 ha.1) (bd_sub' hc.2 ha.2)) (bd_mul (bd_sub' hb.2 ha.2) (bd_sub' hc.1 ha.1))
theorem bd_far {a b : Pt} (ha : pb a) (hb : pb b) : bd 83 (far a b) :=
  bd_add' (bd_mul (bd_sub' ha.1 hb.1) (bd_sub' ha.1 hb.1)) (bd_mul (bd_sub' ha.2 hb.2) (bd_sub' ha.2 hb.2))
theorem area_rot (a b c : Pt) : area b c a = area a b c := by unfold area; grind
theorem area_flip (a b c : Pt) : area b a c = -area a b c := by unfold area; grind
theorem area_sw (a b c : Pt) : area a c b = -area a b c := by unfold area; grind
theorem area_aba (a b : Pt) : area a b a = 0 := by unfold area; grind
theorem area_aab (a b : Pt) : area a a b = 0 := by unfold area; grind
theorem area_abb (a b : Pt) : area a b b = 0 := by unfold area; grind
theorem far_self (a : Pt) : far a a = 0 := by unfold far; grind
theorem rings_rot (a b c d : Pt) : rings b c a d = rings a b c d := by unfold rings; grind
theorem rings_flip (a b c d : Pt) : rings b a c d = -rings a b c d := by
  unfold rings
  rw [area_sw d c a, area_sw d b c, area_sw d a b]
  grind
theorem rings_a (a b c : Pt) : rings a b c a = 0 := by
  unfold rings
  rw [far_self, area_aba, area_aab]
  grind
theorem rings_b (a b c : Pt) : rings a b c b = 0 := by rw [← rings_rot, rings_a]
theorem rings_c (a b c : Pt) : rings a b c c = 0 := by rw [← rings_rot, rings_b]
theorem loop_all {α β γ' : Type} {f : α → Unit → Option (Out β Unit)} {K : Unit → Option (Out β γ')} {xs : List α} {r : Option (Out β γ')} (h : ∀ x ∈ xs, f x () = some (.go ())) (k : K () = r) : thenO (loopL f xs ()) K = r := by
  have e : loopL f xs () = some (.go ()) := by
    clear k
    induction xs with
    | nil => rfl
    | cons x t ih => rw [loopL_go (h x (List.mem_cons_self ..)), ih fun y hy => h y (List.mem_cons_of_mem _ hy)]
  rw [e, thenO_go]
  exact k
theorem loop_allR {α β γ' : Type} {f : α → Unit → Option (Out β Unit)} {K : Unit → Option (Out β γ')} {xs : List α} {r : Option β} (h : ∀ x ∈ xs, f x () = some (.go ())) (k : retv (K ()) = r) : retv (thenO (loopL f xs ()) K) = r := by
  rw [loop_all h rfl]
  exact k
theorem oYes_t {α : Type} (x : α) : oYes x = some true := rfl
end T
namespace G_k02
open PySem PySem.Spec PyProof.Rows L2 T
def top (i : Nat) : Stmt := PySem.Challenge.pw_nearfields_k02_middles.main.body.getD i (.Pass ⟨0, 0, 0, 0⟩)
abbrev s_twice_area : Stmt := top 4
abbrev s_sign : Stmt := top 5
abbrev s_turn : Stmt := top 6
abbrev s_far : Stmt := top 7
abbrev s_common : Stmt := top 8
abbrev s_middle : Stmt := top 9
abbrev s__law_cell_at : Stmt := top 11
abbrev s__law_mixed : Stmt := top 12
abbrev s__law_point : Stmt := top 13
abbrev s__law_grown : Stmt := top 14
abbrev s__law_points : Stmt := top 15
abbrev s__law_area : Stmt := top 16
abbrev s__law_whole : Stmt := top 17
abbrev s__law_into_all : Stmt := top 18
abbrev s__law_away : Stmt := top 19
abbrev s__law_in_row : Stmt := top 20
abbrev s_law : Stmt := top 21
structure Fr (mg : Str → Option Value) : Prop where
  b_int : mg "int" = none
  b_abs : mg "abs" = none
  b_len : mg "len" = none
  b_range : mg "range" = none
  b_isinstance : mg "isinstance" = none
  b_bool : mg "bool" = none
  b_tuple : mg "tuple" = none
  b_all : mg "all" = none
structure Xf (K : PySem.W.Frag) (mg : Str → Option Value) : Prop where
  g_FieldError : mg "FieldError" = some (.ref (He.ga K "FieldError"))
  g_InRow : mg "InRow" = some (.ref (He.ga K "InRow"))
  d_middle : mg "middle" = some (.ref (He.ga K "middle"))
  v_ValueError : mg "ValueError" = none
  c_InRow : ExcC K (He.ga K "InRow")
  e_InRow_FieldError : PySem.W.exmOne K (.ref (He.ga K "InRow")) (.ref (He.ga K "FieldError")) = some true
  k_InRow_InRow : PySem.W.kitOne K (.ref (He.ga K "InRow")) (.ref (He.ga K "InRow")) = some true
  k_InRow_ValueError : PySem.W.kitOne K (.ref (He.ga K "InRow")) (.type "ValueError") = some true
variable {P : Program} {w : World} {K : PySem.W.Frag} {mg : Str → Option Value} {base : Heap} {fa : Addr} {fd : FuncData}
noncomputable def mb_twice_area (v_a : (Int × Int)) (v_b : (Int × Int)) (v_c : (Int × Int)) : Option (Out Int Unit) := (oret (osub (omul (osub (ofst (some v_b)) (ofst (some v_a))) (osub (osnd (some v_c)) (osnd (some v_a)))) (omul (osub (osnd (some v_b)) (osnd (some v_a))) (osub (ofst (some v_c)) (ofst (some v_a))))))
noncomputable def m_twice_area (v_a : (Int × Int)) (v_b : (Int × Int)) (v_c : (Int × Int)) : Option Int := retv (mb_twice_area v_a v_b v_c)
theorem sc_twice_area : FnScope ["a", "b", "c"] ["a", "b", "c"] (defScope s_twice_area) := ⟨rfl, rfl, rfl, by decide +kernel, rfl, by decide +kernel, by decide +kernel⟩
theorem ok_twice_area (B : Fr mg)  (F : FunD K "twice_area" "twice_area" (defArgs s_twice_area) (defBody s_twice_area) (defScope s_twice_area) [] [] fa fd) : FnOk P w K mg base CX0 1 fa fd ["a", "b", "c"] (spOf K false (C3 m_twice_area)) :=
  fn_ok3 (m := mb_twice_area) (post := fun _ => []) F sc_twice_area (by decide) rfl fun cdv A outer s H E hr v_a v_b v_c => (bs_ret (ep_sub (ep_mul (ep_sub (ep_fst (ep_var 1)) (ep_fst (ep_var 0))) (ep_sub (ep_snd (ep_var 2)) (ep_snd (ep_var 0)))) (ep_mul (ep_sub (ep_snd (ep_var 1)) (ep_snd (ep_var 0))) (ep_sub (ep_fst (ep_var 2)) (ep_fst (ep_var 0))))))
noncomputable def mb_sign (v_number : Int) : Option (Out Int Unit) := (oret (osub (ob2i (ogt (some v_number) (some (0 : Int)))) (ob2i (olt (some v_number) (some (0 : Int))))))
noncomputable def m_sign (v_number : Int) : Option Int := retv (mb_sign v_number)
theorem sc_sign : FnScope ["number"] ["number"] (defScope s_sign) := ⟨rfl, rfl, rfl, by decide +kernel, rfl, by decide +kernel, by decide +kernel⟩
theorem ok_sign (B : Fr mg)  (F : FunD K "sign" "sign" (defArgs s_sign) (defBody s_sign) (defScope s_sign) [] [] fa fd) : FnOk P w K mg base CX0 1 fa fd ["number"] (spOf K false (C1 m_sign)) :=
  fn_ok1 (m := mb_sign) (post := fun _ => []) F sc_sign (by decide) rfl fun cdv A outer s H E hr v_number => (bs_ret (ep_sub (ep_intB (by rfl) B.b_int (Cq.e (cq_gt (ep_var 0) ep_int) _)) (ep_intB (by rfl) B.b_int (Cq.e (cq_lt (ep_var 0) ep_int) _))))
noncomputable def mb_turn (v_a : (Int × Int)) (v_b : (Int × Int)) (v_c : (Int × Int)) : Option (Out Int Unit) := (oret (Option.bind (bind3 (some v_a) (some v_b) (some v_c) m_twice_area) m_sign))
noncomputable def m_turn (v_a : (Int × Int)) (v_b : (Int × Int)) (v_c : (Int × Int)) : Option Int := retv (mb_turn v_a v_b v_c)
theorem sc_turn : FnScope ["a", "b", "c"] ["a", "b", "c"] (defScope s_turn) := ⟨rfl, rfl, rfl, by decide +kernel, rfl, by decide +kernel, by decide +kernel⟩
theorem ok_turn (B : Fr mg) (h_twice_area : Has P w K mg base 1 "twice_area" ["a", "b", "c"] (spOf K false (C3 m_twice_area))) (h_sign : Has P w K mg base 1 "sign" ["number"] (spOf K false (C1 m_sign))) (F : FunD K "turn" "turn" (defArgs s_turn) (defBody s_turn) (defScope s_turn) [] [] fa fd) : FnOk P w K mg base CX0 2 fa fd ["a", "b", "c"] (spOf K false (C3 m_turn)) :=
  fn_ok3 (m := mb_turn) (post := fun _ => []) F sc_turn (by decide) rfl fun cdv A outer s H E hr v_a v_b v_c => (bs_ret (ep_has h_sign hr (by decide) (ag_cons (ep_has h_twice_area hr (by decide) (ag_cons (ep_var 0) (ag_cons (ep_var 1) (ag_cons (ep_var 2) ag_nil))) c3) ag_nil) c1))
noncomputable def mb_far (v_a : (Int × Int)) (v_b : (Int × Int)) : Option (Out Int Unit) := (oret (oadd (opow (osub (ofst (some v_a)) (ofst (some v_b))) (some (2 : Int))) (opow (osub (osnd (some v_a)) (osnd (some v_b))) (some (2 : Int)))))
noncomputable def m_far (v_a : (Int × Int)) (v_b : (Int × Int)) : Option Int := retv (mb_far v_a v_b)
theorem sc_far : FnScope ["a", "b"] ["a", "b"] (defScope s_far) := ⟨rfl, rfl, rfl, by decide +kernel, rfl, by decide +kernel, by decide +kernel⟩
theorem ok_far (B : Fr mg)  (F : FunD K "far" "far" (defArgs s_far) (defBody s_far) (defScope s_far) [] [] fa fd) : FnOk P w K mg base CX0 1 fa fd ["a", "b"] (spOf K false (C2 m_far)) :=
  fn_ok2 (m := mb_far) (post := fun _ => []) F sc_far (by decide) rfl fun cdv A outer s H E hr v_a v_b => (bs_ret (ep_add (ep_pow (ep_sub (ep_fst (ep_var 0)) (ep_fst (ep_var 1))) ep_int) (ep_pow (ep_sub (ep_snd (ep_var 0)) (ep_snd (ep_var 1))) ep_int)))
noncomputable def mb_common (v_one : Int) (v_other : Int) : Option (Out Int Unit) := (Option.bind (oabs (some v_one)) fun (v_one : Int) => (Option.bind (oabs (some v_other)) fun (v_other : Int) => (thenO (loopW (fun (g1 : (Int × Int)) => (ogt (some g1.2) (some (0 : Int)))) (fun (g1 : (Int × Int)) => (bind2 (some g1.2) (omod (some g1.1) (some g1.2)) fun (v_one : Int) (v_other : Int) => (some (.go (v_one, v_other) : Out Int (Int × Int))))) (v_one, v_other)) fun (g1 : (Int × Int)) => (oret (some g1.1)))))
noncomputable def m_common (v_one : Int) (v_other : Int) : Option Int := retv (mb_common v_one v_other)
theorem sc_common : FnScope ["one", "other"] ["one", "other"] (defScope s_common) := ⟨rfl, rfl, rfl, by decide +kernel, rfl, by decide +kernel, by decide +kernel⟩
theorem ok_common (B : Fr mg)  (F : FunD K "common" "common" (defArgs s_common) (defBody s_common) (defScope s_common) [] [] fa fd) : FnOk P w K mg base CX0 1 fa fd ["one", "other"] (spOf K false (C2 m_common)) :=
  fn_ok2 (m := mb_common) (post := fun _ => []) F sc_common (by decide) rfl fun cdv A outer s H E hr v_one v_other => (bs_asg 0 sc_common.nd (ep_abs (by rfl) B.b_abs (ep_var 0)) fun v_one => (bs_asg 1 sc_common.nd (ep_abs (by rfl) B.b_abs (ep_var 1)) fun v_other => (bs_while (fun (g1 : (Int × Int)) => [.imm (α := Int) g1.1, .imm (α := Int) g1.2]) (v_one, v_other) (Wk.same (Wk.same Wk.nil)) (fun g1 => (Cq.t (cq_gt (ep_var 1) ep_int) _)) (fun g1 => (bs_par 0 1 rfl sc_common.nd (ep_var 1) (ep_mod (ep_var 0) (ep_var 1)) fun v_one v_other => (bs_go (Wk.same (Wk.same Wk.nil))))) (fun g1 => (bs_ret (ep_var 0))) .never)))
noncomputable def mb_middle (v_a : (Int × Int)) (v_b : (Int × Int)) (v_c : (Int × Int)) : Option (Out Tri Unit) := (oite (oeq (bind3 (some v_a) (some v_b) (some v_c) m_turn) (some (0 : Int))) (noGo none) (Option.bind (omul (some (2 : Int)) (bind3 (some v_a) (some v_b) (some v_c) m_twice_area)) fun (v_area : Int) => (Option.bind (bind2 (some v_a) (some v_b) m_far) fun (v_one : Int) => (Option.bind (bind2 (some v_a) (some v_c) m_far) fun (v_two : Int) => (Option.bind (osub (oadd (omul (ofst (some v_a)) (some v_area)) (omul (some v_one) (osub (osnd (some v_c)) (osnd (some v_a))))) (omul (some v_two) (osub (osnd (some v_b)) (osnd (some v_a))))) fun (v_x : Int) => (Option.bind (osub (oadd (omul (osnd (some v_a)) (some v_area)) (omul (some v_two) (osub (ofst (some v_b)) (ofst (some v_a))))) (omul (some v_one) (osub (ofst (some v_c)) (ofst (some v_a))))) fun (v_y : Int) => (Option.bind (omul (bind2 (bind2 (some v_x) (some v_y) m_common) (some v_area) m_common) (Option.bind (some v_area) m_sign)) fun (v_by : Int) => (oret (omk3 (ofdiv (some v_x) (some v_by)) (ofdiv (some v_y) (some v_by)) (ofdiv (some v_area) (some v_by)))))))))))
noncomputable def m_middle (v_a : (Int × Int)) (v_b : (Int × Int)) (v_c : (Int × Int)) : Option Tri := retv (mb_middle v_a v_b v_c)
theorem sc_middle : FnScope ["a", "b", "c", "area", "one", "two", "x", "y", "by"] ["a", "b", "c"] (defScope s_middle) := ⟨rfl, rfl, rfl, by decide +kernel, rfl, by decide +kernel, by decide +kernel⟩
theorem ok_middle (B : Fr mg) (h_turn : Has P w K mg base 2 "turn" ["a", "b", "c"] (spOf K false (C3 m_turn))) (h_twice_area : Has P w K mg base 1 "twice_area" ["a", "b", "c"] (spOf K false (C3 m_twice_area))) (h_far : Has P w K mg base 1 "far" ["a", "b"] (spOf K false (C2 m_far))) (h_common : Has P w K mg base 1 "common" ["one", "other"] (spOf K false (C2 m_common))) (h_sign : Has P w K mg base 1 "sign" ["number"] (spOf K false (C1 m_sign))) (F : FunD K "middle" "middle" (defArgs s_middle) (defBody s_middle) (defScope s_middle) [] [] fa fd) : FnOk P w K mg base CX0 3 fa fd ["a", "b", "c"] (spOf K false (C3 m_middle)) :=
  fn_ok3 (m := mb_middle) (post := fun _ => []) F sc_middle (by decide) rfl fun cdv A outer s H E hr v_a v_b v_c => (bs_ifR (Cq.t (cq_eqS (ep_has h_turn hr (by decide) (ag_cons (ep_var 0) (ag_cons (ep_var 1) (ag_cons (ep_var 2) ag_nil))) c3) ep_int) _) bs_none (bs_asg 3 sc_middle.nd (ep_mul ep_int (ep_has h_twice_area hr (by decide) (ag_cons (ep_var 0) (ag_cons (ep_var 1) (ag_cons (ep_var 2) ag_nil))) c3)) fun v_area => (bs_asg 4 sc_middle.nd (ep_has h_far hr (by decide) (ag_cons (ep_var 0) (ag_cons (ep_var 1) ag_nil)) c2) fun v_one => (bs_asg 5 sc_middle.nd (ep_has h_far hr (by decide) (ag_cons (ep_var 0) (ag_cons (ep_var 2) ag_nil)) c2) fun v_two => (bs_asg 6 sc_middle.nd (ep_sub (ep_add (ep_mul (ep_fst (ep_var 0)) (ep_var 3)) (ep_mul (ep_var 4) (ep_sub (ep_snd (ep_var 2)) (ep_snd (ep_var 0))))) (ep_mul (ep_var 5) (ep_sub (ep_snd (ep_var 1)) (ep_snd (ep_var 0))))) fun v_x => (bs_asg 7 sc_middle.nd (ep_sub (ep_add (ep_mul (ep_snd (ep_var 0)) (ep_var 3)) (ep_mul (ep_var 5) (ep_sub (ep_fst (ep_var 1)) (ep_fst (ep_var 0))))) (ep_mul (ep_var 4) (ep_sub (ep_fst (ep_var 2)) (ep_fst (ep_var 0))))) fun v_y => (bs_asg 8 sc_middle.nd (ep_mul (ep_has h_common hr (by decide) (ag_cons (ep_has h_common hr (by decide) (ag_cons (ep_var 6) (ag_cons (ep_var 7) ag_nil)) c2) (ag_cons (ep_var 3) ag_nil)) c2) (ep_has h_sign hr (by decide) (ag_cons (ep_var 3) ag_nil) c1)) fun v_by => (bs_ret (ep_tri (ep_fdiv (ep_var 6) (ep_var 8)) (ep_fdiv (ep_var 7) (ep_var 8)) (ep_fdiv (ep_var 3) (ep_var 8)))))))))))
noncomputable def mbx_middle (v_a : (Int × Int)) (v_b : (Int × Int)) (v_c : (Int × Int)) : Option (Out Tri Unit) := (oite (oeq (bind3 (some v_a) (some v_b) (some v_c) m_turn) (some (0 : Int))) (noGo (some (.exc 0))) (Option.bind (omul (some (2 : Int)) (bind3 (some v_a) (some v_b) (some v_c) m_twice_area)) fun (v_area : Int) => (Option.bind (bind2 (some v_a) (some v_b) m_far) fun (v_one : Int) => (Option.bind (bind2 (some v_a) (some v_c) m_far) fun (v_two : Int) => (Option.bind (osub (oadd (omul (ofst (some v_a)) (some v_area)) (omul (some v_one) (osub (osnd (some v_c)) (osnd (some v_a))))) (omul (some v_two) (osub (osnd (some v_b)) (osnd (some v_a))))) fun (v_x : Int) => (Option.bind (osub (oadd (omul (osnd (some v_a)) (some v_area)) (omul (some v_two) (osub (ofst (some v_b)) (ofst (some v_a))))) (omul (some v_one) (osub (ofst (some v_c)) (ofst (some v_a))))) fun (v_y : Int) => (Option.bind (omul (bind2 (bind2 (some v_x) (some v_y) m_common) (some v_area) m_common) (Option.bind (some v_area) m_sign)) fun (v_by : Int) => (oret (omk3 (ofdiv (some v_x) (some v_by)) (ofdiv (some v_y) (some v_by)) (ofdiv (some v_area) (some v_by)))))))))))
noncomputable def mx_middle (v_a : (Int × Int)) (v_b : (Int × Int)) (v_c : (Int × Int)) : Option (Tri ⊕ Nat) := retx (mbx_middle v_a v_b v_c)
theorem okx_middle (B : Fr mg) (XA_InRow : ExA K mg "InRow" (He.ga K "InRow")) (h_turn : Has P w K mg base 2 "turn" ["a", "b", "c"] (spOf K false (C3 m_turn))) (h_twice_area : Has P w K mg base 1 "twice_area" ["a", "b", "c"] (spOf K false (C3 m_twice_area))) (h_far : Has P w K mg base 1 "far" ["a", "b"] (spOf K false (C2 m_far))) (h_common : Has P w K mg base 1 "common" ["one", "other"] (spOf K false (C2 m_common))) (h_sign : Has P w K mg base 1 "sign" ["number"] (spOf K false (C1 m_sign))) (F : FunD K "middle" "middle" (defArgs s_middle) (defBody s_middle) (defScope s_middle) [] [] fa fd) : FnOk P w K mg base (L2.CX P w) 3 fa fd ["a", "b", "c"] (spX K false (fun _ => He.ga K "InRow") (C3 mx_middle)) :=
  fn_okX3 (m := mbx_middle) (post := fun _ => []) F sc_middle (by decide) rfl fun cdv A outer s H E hr v_a v_b v_c => (bs_ifR (Cq.t (cq_eqS (ep_has h_turn hr (by decide) (ag_cons (ep_var 0) (ag_cons (ep_var 1) (ag_cons (ep_var 2) ag_nil))) c3) ep_int) _) (bs_raise 0 XA_InRow (takes_of rfl rfl rfl rfl) (fun _ h => h) rfl) (bs_asg 3 sc_middle.nd (ep_mul ep_int (ep_has h_twice_area hr (by decide) (ag_cons (ep_var 0) (ag_cons (ep_var 1) (ag_cons (ep_var 2) ag_nil))) c3)) fun v_area => (bs_asg 4 sc_middle.nd (ep_has h_far hr (by decide) (ag_cons (ep_var 0) (ag_cons (ep_var 1) ag_nil)) c2) fun v_one => (bs_asg 5 sc_middle.nd (ep_has h_far hr (by decide) (ag_cons (ep_var 0) (ag_cons (ep_var 2) ag_nil)) c2) fun v_two => (bs_asg 6 sc_middle.nd (ep_sub (ep_add (ep_mul (ep_fst (ep_var 0)) (ep_var 3)) (ep_mul (ep_var 4) (ep_sub (ep_snd (ep_var 2)) (ep_snd (ep_var 0))))) (ep_mul (ep_var 5) (ep_sub (ep_snd (ep_var 1)) (ep_snd (ep_var 0))))) fun v_x => (bs_asg 7 sc_middle.nd (ep_sub (ep_add (ep_mul (ep_snd (ep_var 0)) (ep_var 3)) (ep_mul (ep_var 5) (ep_sub (ep_fst (ep_var 1)) (ep_fst (ep_var 0))))) (ep_mul (ep_var 4) (ep_sub (ep_fst (ep_var 2)) (ep_fst (ep_var 0))))) fun v_y => (bs_asg 8 sc_middle.nd (ep_mul (ep_has h_common hr (by decide) (ag_cons (ep_has h_common hr (by decide) (ag_cons (ep_var 6) (ag_cons (ep_var 7) ag_nil)) c2) (ag_cons (ep_var 3) ag_nil)) c2) (ep_has h_sign hr (by decide) (ag_cons (ep_var 3) ag_nil) c1)) fun v_by => (bs_ret (ep_tri (ep_fdiv (ep_var 6) (ep_var 8)) (ep_fdiv (ep_var 7) (ep_var 8)) (ep_fdiv (ep_var 3) (ep_var 8)))))))))))
noncomputable def mb__law_cell_at (v_l_script : Script) (v_l_k : Int) : Option (Out Int Unit) := (oite (olt (some v_l_k) (oslen (some v_l_script))) (noGo (oret (osidx (some v_l_script) (some v_l_k)))) (oret (some (0 : Int))))
noncomputable def m__law_cell_at (v_l_script : Script) (v_l_k : Int) : Option Int := retv (mb__law_cell_at v_l_script v_l_k)
theorem sc__law_cell_at : FnScope ["_law_script", "_law_k"] ["_law_script", "_law_k"] (defScope s__law_cell_at) := ⟨rfl, rfl, rfl, by decide +kernel, rfl, by decide +kernel, by decide +kernel⟩
theorem ok__law_cell_at (B : Fr mg)  (F : FunD K "_law_cell_at" "_law_cell_at" (defArgs s__law_cell_at) (defBody s__law_cell_at) (defScope s__law_cell_at) [] [] fa fd) : FnOk P w K mg base CX0 1 fa fd ["_law_script", "_law_k"] (spOf K false (C2 m__law_cell_at)) :=
  fn_ok2 (m := mb__law_cell_at) (post := fun _ => []) F sc__law_cell_at (by decide) rfl fun cdv A outer s H E hr v_l_script v_l_k => (bs_ifR (Cq.t (cq_lt (ep_var 1) (ep_slen (by rfl) B.b_len (ep_var 0))) _) (bs_ret (ep_sidx (ep_var 0) (ep_var 1))) (bs_ret ep_int))
noncomputable def mb__law_mixed (v_l_cell : Int) (v_l_k : Int) : Option (Out Int Unit) := (oret (omod (omul (oadd (oadd (some v_l_cell) (omul (some (61 : Int)) (some v_l_k))) (some (7 : Int))) (opow (some (1000003 : Int)) (some (3 : Int)))) (oadd (opow (some (10 : Int)) (some (24 : Int))) (some (7 : Int)))))
noncomputable def m__law_mixed (v_l_cell : Int) (v_l_k : Int) : Option Int := retv (mb__law_mixed v_l_cell v_l_k)
theorem sc__law_mixed : FnScope ["_law_cell", "_law_k"] ["_law_cell", "_law_k"] (defScope s__law_mixed) := ⟨rfl, rfl, rfl, by decide +kernel, rfl, by decide +kernel, by decide +kernel⟩
theorem ok__law_mixed (B : Fr mg)  (F : FunD K "_law_mixed" "_law_mixed" (defArgs s__law_mixed) (defBody s__law_mixed) (defScope s__law_mixed) [] [] fa fd) : FnOk P w K mg base CX0 1 fa fd ["_law_cell", "_law_k"] (spOf K false (C2 m__law_mixed)) :=
  fn_ok2 (m := mb__law_mixed) (post := fun _ => []) F sc__law_mixed (by decide) rfl fun cdv A outer s H E hr v_l_cell v_l_k => (bs_ret (ep_mod (ep_mul (ep_add (ep_add (ep_var 0) (ep_mul ep_int (ep_var 1))) ep_int) (ep_pow ep_int ep_int)) (ep_add (ep_pow ep_int ep_int) ep_int)))
noncomputable def mb__law_point (v_l_kind : Int) (v_l_number : Int) : Option (Out (Int × Int) Unit) := (oite (oeq (some v_l_kind) (some (0 : Int))) (noGo (oret (omk2 (omod (some v_l_number) (some (3 : Int))) (omod (ofdiv (some v_l_number) (some (3 : Int))) (some (3 : Int)))))) (oite (oeq (some v_l_kind) (some (1 : Int))) (noGo (oret (omk2 (osub (omod (some v_l_number) (some (5 : Int))) (some (1 : Int))) (omod (ofdiv (some v_l_number) (some (5 : Int))) (some (5 : Int)))))) (oite (oeq (some v_l_kind) (some (2 : Int))) (noGo (Option.bind (osub (omod (ofdiv (some v_l_number) (some (2000001 : Int))) (some (2000001 : Int))) (some (1000000 : Int))) fun (v_l_y : Int) => (oret (omk2 (osub (omod (some v_l_number) (some (2000001 : Int))) (some (1000000 : Int))) (some v_l_y))))) (oite (oeq (some v_l_kind) (some (3 : Int))) (noGo (Option.bind (ob2i (oeq (omod (ofdiv (some v_l_number) (some (9 : Int))) (some (5 : Int))) (some (1 : Int)))) fun (v_l_off : Int) => (oret (omk2 (osub (omod (some v_l_number) (some (9 : Int))) (some (4 : Int))) (oadd (omul (some (2 : Int)) (omod (some v_l_number) (some (9 : Int)))) (some v_l_off)))))) (oite (oand (oeq (some v_l_kind) (some (4 : Int))) (ogt (omod (ofdiv (some v_l_number) (some (12 : Int))) (some (6 : Int))) (some (0 : Int)))) (noGo (Option.bind (ocons (omk2 (some (5 : Int)) (some (0 : Int))) (ocons (omk2 (some (4 : Int)) (some (3 : Int))) (ocons (omk2 (some (3 : Int)) (some (4 : Int))) (ocons (omk2 (some (0 : Int)) (some (5 : Int))) (ocons (omk2 (oneg (some (3 : Int))) (some (4 : Int))) (ocons (omk2 (oneg (some (4 : Int))) (some (3 : Int))) (some ([] : List (Int × Int))))))))) fun (v_l_some : (List (Int × Int))) => (Option.bind (ocat (some v_l_some) (Option.bind (some v_l_some) fun xs2 => if capOk xs2.length then lcM oYes (fun (x1 : (Int × Int)) => (omk2 (oneg (some x1.1)) (oneg (some x1.2)))) xs2 else none)) fun (v_l_some : (List (Int × Int))) => (oret (oidx (some v_l_some) (omod (some v_l_number) (some (12 : Int)))))))) (oret (omk2 (osub (omod (some v_l_number) (some (12 : Int))) (some (6 : Int))) (osub (omod (ofdiv (some v_l_number) (some (12 : Int))) (some (9 : Int))) (some (4 : Int))))))))))
noncomputable def m__law_point (v_l_kind : Int) (v_l_number : Int) : Option (Int × Int) := retv (mb__law_point v_l_kind v_l_number)
theorem sc__law_point : FnScope ["_law_kind", "_law_number", "_law_y", "_law_off", "_law_some", "_law_x"] ["_law_kind", "_law_number"] (defScope s__law_point) := ⟨rfl, rfl, rfl, by decide +kernel, rfl, by decide +kernel, by decide +kernel⟩
theorem ok__law_point (B : Fr mg)  (F : FunD K "_law_point" "_law_point" (defArgs s__law_point) (defBody s__law_point) (defScope s__law_point) [] [] fa fd) : FnOk P w K mg base CX0 1 fa fd ["_law_kind", "_law_number"] (spOf K false (C2 m__law_point)) :=
  fn_ok2 (m := mb__law_point) (post := fun _ => []) F sc__law_point (by decide) rfl fun cdv A outer s H E hr v_l_kind v_l_number => (bs_ifR (Cq.t (cq_eqS (ep_var 0) ep_int) _) (bs_ret (ep_pair (ep_mod (ep_var 1) ep_int) (ep_mod (ep_fdiv (ep_var 1) ep_int) ep_int))) (bs_ifR (Cq.t (cq_eqS (ep_var 0) ep_int) _) (bs_ret (ep_pair (ep_sub (ep_mod (ep_var 1) ep_int) ep_int) (ep_mod (ep_fdiv (ep_var 1) ep_int) ep_int))) (bs_ifR (Cq.t (cq_eqS (ep_var 0) ep_int) _) (bs_asg 2 sc__law_point.nd (ep_sub (ep_mod (ep_fdiv (ep_var 1) ep_int) ep_int) ep_int) fun v_l_y => (bs_ret (ep_pair (ep_sub (ep_mod (ep_var 1) ep_int) ep_int) (ep_var 2)))) (bs_ifR (Cq.t (cq_eqS (ep_var 0) ep_int) _) (bs_asg 3 sc__law_point.nd (ep_intB (by rfl) B.b_int (Cq.e (cq_eqS (ep_mod (ep_fdiv (ep_var 1) ep_int) ep_int) ep_int) _)) fun v_l_off => (bs_ret (ep_pair (ep_sub (ep_mod (ep_var 1) ep_int) ep_int) (ep_add (ep_mul ep_int (ep_mod (ep_var 1) ep_int)) (ep_var 3))))) (bs_ifR (tp_w (wp_and (Cq.t (cq_eqS (ep_var 0) ep_int) _) (wp_and1 (Cq.t (cq_gt (ep_mod (ep_fdiv (ep_var 1) ep_int) ep_int) ep_int) _)))) (bs_asg 4 sc__law_point.nd (EpF.ep (ep_lst (al_cons (ep_pair ep_int ep_int) (al_cons (ep_pair ep_int ep_int) (al_cons (ep_pair ep_int ep_int) (al_cons (ep_pair ep_int ep_int) (al_cons (ep_pair (ep_neg ep_int) ep_int) (al_cons (ep_pair (ep_neg ep_int) ep_int) al_nil)))))))) fun v_l_some => (bs_asg 4 sc__law_point.nd (EpF.ep (ep_cat (Ep.lp (ep_var 4)) (EpF.lp (LcOk.ep rfl sc__law_point.nd (lc_C [("_law_x", 5), ("_law_y", 2)] (blkOk_by (N := ["_law_kind", "_law_number", "_law_y", "_law_off", "_law_some", "_law_x"]) (sc := defScope s__law_point) (by decide +kernel)) (Ep.lp (ep_var 4)) (fun _ _ _ _ _ => (pg_tup rfl (pgs_cons (pg_name (i := 5) sc__law_point.nd rfl (by first | exact Or.inl rfl | exact Or.inr rfl)) (pgs_cons (pg_name (i := 2) sc__law_point.nd rfl (by first | exact Or.inl rfl | exact Or.inr rfl)) pgs_nil)))) (tg_pair 5 2) (by intro j hj; simpa using hj) (fun _ _ _ _ _ => pts_nil) tts_nil (fun x1 _ _ _ _ _ => (ep_pair (ep_neg (ep_var 5)) (ep_neg (ep_var 2)))) (by intro _; rfl)))))) fun v_l_some => (bs_ret (ep_idx (Ep.lp (ep_var 4)) (ep_mod (ep_var 1) ep_int))))) (bs_ret (ep_pair (ep_sub (ep_mod (ep_var 1) ep_int) ep_int) (ep_sub (ep_mod (ep_fdiv (ep_var 1) ep_int) ep_int) ep_int))))))))
noncomputable def mb__law_grown (v_l_point_here : (Int × Int)) (v_l_kind : Int) (v_l_by : Int) (v_l_number : Int) : Option (Out (Int × Int) Unit) := (Option.bind (some v_l_point_here) fun (y1 : (Int × Int)) => (oite (oor (oeq (some v_l_kind) (some (2 : Int))) (olt (omod (some v_l_by) (some (4 : Int))) (some (2 : Int)))) (noGo (oret (some v_l_point_here))) (Option.bind (oidx (ocons (some (1000 : Int)) (ocons (some (50000 : Int)) (some ([] : List Int)))) (osub (omod (some v_l_by) (some (4 : Int))) (some (2 : Int)))) fun (v_l_times : Int) => (Option.bind (osub (omod (ofdiv (some v_l_by) (some (4 : Int))) (some (90001 : Int))) (some (45000 : Int))) fun (v_l_away_here : Int) => (Option.bind (ob2i (oeq (omod (ofdiv (some v_l_number) (opow (some (10 : Int)) (some (9 : Int)))) (some (9 : Int))) (some (1 : Int)))) fun (v_l_off : Int) => (oret (omk2 (oadd (oadd (omul (some y1.1) (some v_l_times)) (some v_l_away_here)) (some v_l_off)) (osub (omul (some y1.2) (some v_l_times)) (some v_l_away_here)))))))))
noncomputable def m__law_grown (v_l_point_here : (Int × Int)) (v_l_kind : Int) (v_l_by : Int) (v_l_number : Int) : Option (Int × Int) := retv (mb__law_grown v_l_point_here v_l_kind v_l_by v_l_number)
theorem sc__law_grown : FnScope ["_law_point_here", "_law_kind", "_law_by", "_law_number", "_law_x", "_law_y", "_law_times", "_law_away_here", "_law_off"] ["_law_point_here", "_law_kind", "_law_by", "_law_number"] (defScope s__law_grown) := ⟨rfl, rfl, rfl, by decide +kernel, rfl, by decide +kernel, by decide +kernel⟩
theorem ok__law_grown (B : Fr mg)  (F : FunD K "_law_grown" "_law_grown" (defArgs s__law_grown) (defBody s__law_grown) (defScope s__law_grown) [] [] fa fd) : FnOk P w K mg base CX0 1 fa fd ["_law_point_here", "_law_kind", "_law_by", "_law_number"] (spOf K false (C4 m__law_grown)) :=
  fn_ok4 (m := mb__law_grown) (post := fun _ => []) F sc__law_grown (by decide) rfl fun cdv A outer s H E hr v_l_point_here v_l_kind v_l_by v_l_number => (bs_unp (pg_tup rfl (pgs_cons (pg_name (i := 4) sc__law_grown.nd rfl (by first | exact Or.inl rfl | exact Or.inr rfl)) (pgs_cons (pg_name (i := 5) sc__law_grown.nd rfl (by first | exact Or.inl rfl | exact Or.inr rfl)) pgs_nil))) (tg_pair 4 5) (ep_var 0) fun y1 => (bs_ifR (tp_w (wp_or (Cq.t (cq_eqS (ep_var 1) ep_int) _) (wp_or1 (Cq.t (cq_lt (ep_mod (ep_var 2) ep_int) ep_int) _)))) (bs_ret (ep_var 0)) (bs_asg 6 sc__law_grown.nd (ep_idx (EpF.lp (ep_lst (al_cons ep_int (al_cons ep_int al_nil)))) (ep_sub (ep_mod (ep_var 2) ep_int) ep_int)) fun v_l_times => (bs_asg 7 sc__law_grown.nd (ep_sub (ep_mod (ep_fdiv (ep_var 2) ep_int) ep_int) ep_int) fun v_l_away_here => (bs_asg 8 sc__law_grown.nd (ep_intB (by rfl) B.b_int (Cq.e (cq_eqS (ep_mod (ep_fdiv (ep_var 3) (ep_pow ep_int ep_int)) ep_int) ep_int) _)) fun v_l_off => (bs_ret (ep_pair (ep_add (ep_add (ep_mul (ep_var 4) (ep_var 6)) (ep_var 7)) (ep_var 8)) (ep_sub (ep_mul (ep_var 5) (ep_var 6)) (ep_var 7)))))))))
noncomputable def mb__law_points (v_l_script : Script) (v_l_most : Int) : Option (Out (List (Int × Int)) Unit) := (Option.bind (bind2 (some v_l_script) (some (0 : Int)) m__law_cell_at) fun (v_l_first : Int) => (Option.bind (omod (ofdiv (some v_l_first) (some v_l_most)) (some (6 : Int))) fun (v_l_kind : Int) => (Option.bind (some ([] : List (Int × Int))) fun (v_l_points_here : (List (Int × Int))) => (Option.bind (orng (oadd (some (1 : Int)) (omod (some v_l_first) (some v_l_most)))) fun xs4 => thenO (loopL (fun (x2 : Int) (g1 : ((List (Int × Int)))) => (Option.bind (bind2 (bind2 (some v_l_script) (oadd (some (1 : Int)) (some x2)) m__law_cell_at) (some x2) m__law_mixed) fun (v_l_number : Int) => (Option.bind (bind2 (some v_l_kind) (some v_l_number) m__law_point) fun (v_l_point_here : (Int × Int)) => (Option.bind (bind4 (some v_l_point_here) (some v_l_kind) (ofdiv (ofdiv (some v_l_first) (some v_l_most)) (some (6 : Int))) (some v_l_number) m__law_grown) fun (v_l_point_here : (Int × Int)) => (thenO (oite (onin (some v_l_point_here) (some g1)) (Option.bind (oapp g1 (some v_l_point_here)) fun (v_l_points_here : List (Int × Int)) => (some (.go (v_l_points_here) : Out (List (Int × Int)) ((List (Int × Int)))))) (some (.go (g1) : Out (List (Int × Int)) ((List (Int × Int)))))) fun (g3 : ((List (Int × Int)))) => (some (.go (g3) : Out (List (Int × Int)) ((List (Int × Int)))))))))) xs4 (v_l_points_here)) fun (g1 : ((List (Int × Int)))) => (some (.ret g1))))))
noncomputable def m__law_points (v_l_script : Script) (v_l_most : Int) : Option (List (Int × Int)) := retv (mb__law_points v_l_script v_l_most)
theorem sc__law_points : FnScope ["_law_script", "_law_most", "_law_first", "_law_kind", "_law_points_here", "_law_k", "_law_number", "_law_point_here"] ["_law_script", "_law_most"] (defScope s__law_points) := ⟨rfl, rfl, rfl, by decide +kernel, rfl, by decide +kernel, by decide +kernel⟩
theorem ok__law_points (B : Fr mg) (h__law_cell_at : Has P w K mg base 1 "_law_cell_at" ["_law_script", "_law_k"] (spOf K false (C2 m__law_cell_at))) (h__law_mixed : Has P w K mg base 1 "_law_mixed" ["_law_cell", "_law_k"] (spOf K false (C2 m__law_mixed))) (h__law_point : Has P w K mg base 1 "_law_point" ["_law_kind", "_law_number"] (spOf K false (C2 m__law_point))) (h__law_grown : Has P w K mg base 1 "_law_grown" ["_law_point_here", "_law_kind", "_law_by", "_law_number"] (spOf K false (C4 m__law_grown))) (F : FunD K "_law_points" "_law_points" (defArgs s__law_points) (defBody s__law_points) (defScope s__law_points) [] [] fa fd) : FnOk P w K mg base CX0 2 fa fd ["_law_script", "_law_most"] (spOf K true (C2 m__law_points)) :=
  fn_ok2 (m := mb__law_points) (post := fun _ => []) F sc__law_points (by decide) rfl fun cdv A outer s H E hr v_l_script v_l_most => (bs_asg 2 sc__law_points.nd (ep_has h__law_cell_at hr (by decide) (ag_cons (ep_var 0) (ag_cons ep_int ag_nil)) c2) fun v_l_first => (bs_asg 3 sc__law_points.nd (ep_mod (ep_fdiv (ep_var 2) (ep_var 1)) ep_int) fun v_l_kind => (bs_asgM 4 sc__law_points.nd (ep_lst al_nil) fun v_l_points_here => (bs_forR (fun (g1 : ((List (Int × Int)))) => [.imm (α := Script) v_l_script, .imm (α := Int) v_l_most, .imm (α := Int) v_l_first, .imm (α := Int) v_l_kind, .mut (ML.mk (α := (Int × Int)) g1), .any, .any, .any]) (v_l_points_here) (by rfl) B.b_range (pg_name (i := 5) sc__law_points.nd rfl (by first | exact Or.inl rfl | exact Or.inr rfl)) (tg_name 5) (ep_add ep_int (ep_mod (ep_var 2) (ep_var 1))) (Wk.same (Wk.same (Wk.same (Wk.same (Wk.same (Wk.same (Wk.same (Wk.same Wk.nil)))))))) (fun x2 g1 => (bs_asg 6 sc__law_points.nd (ep_has h__law_mixed hr (by decide) (ag_cons (ep_has h__law_cell_at hr (by decide) (ag_cons (ep_var 0) (ag_cons (ep_add ep_int (ep_var 5)) ag_nil)) c2) (ag_cons (ep_var 5) ag_nil)) c2) fun v_l_number => (bs_asg 7 sc__law_points.nd (ep_has h__law_point hr (by decide) (ag_cons (ep_var 3) (ag_cons (ep_var 6) ag_nil)) c2) fun v_l_point_here => (bs_asg 7 sc__law_points.nd (ep_has h__law_grown hr (by decide) (ag_cons (ep_var 7) (ag_cons (ep_var 3) (ag_cons (ep_fdiv (ep_fdiv (ep_var 2) (ep_var 1)) ep_int) (ag_cons (ep_var 6) ag_nil)))) c4) fun v_l_point_here => (bs_ifG (post1 := (fun (g3 : ((List (Int × Int)))) => [.imm (α := Script) v_l_script, .imm (α := Int) v_l_most, .imm (α := Int) v_l_first, .imm (α := Int) v_l_kind, .mut (ML.mk (α := (Int × Int)) g3), .imm (α := Int) x2, .imm (α := Int) v_l_number, .imm (α := (Int × Int)) v_l_point_here])) (Cq.t (cq_nin hr.units65 (ep_var 7) (lp_var 4)) _) (bs_app 4 (ep_var 7) fun v_l_points_here => (bs_go (Wk.same (Wk.same (Wk.same (Wk.same (Wk.same (Wk.same (Wk.same (Wk.same Wk.nil)))))))))) (bs_go (Wk.same (Wk.same (Wk.same (Wk.same (Wk.same (Wk.same (Wk.same (Wk.same Wk.nil))))))))) fun g3 => (bs_go (Wk.same (Wk.same (Wk.same (Wk.same (Wk.same (Wk.any (Wk.any (Wk.any Wk.nil)))))))))))))) (fun g1 => (bs_retM 4)) .never rfl))))
noncomputable def mb__law_area (v_l_a : (Int × Int)) (v_l_b : (Int × Int)) (v_l_c : (Int × Int)) : Option (Out Int Unit) := (Option.bind (omul (osub (ofst (some v_l_b)) (ofst (some v_l_a))) (osub (osnd (some v_l_c)) (osnd (some v_l_b)))) fun (v_l_one : Int) => (oret (osub (some v_l_one) (omul (osub (osnd (some v_l_b)) (osnd (some v_l_a))) (osub (ofst (some v_l_c)) (ofst (some v_l_b)))))))
noncomputable def m__law_area (v_l_a : (Int × Int)) (v_l_b : (Int × Int)) (v_l_c : (Int × Int)) : Option Int := retv (mb__law_area v_l_a v_l_b v_l_c)
theorem sc__law_area : FnScope ["_law_a", "_law_b", "_law_c", "_law_one"] ["_law_a", "_law_b", "_law_c"] (defScope s__law_area) := ⟨rfl, rfl, rfl, by decide +kernel, rfl, by decide +kernel, by decide +kernel⟩
theorem ok__law_area (B : Fr mg)  (F : FunD K "_law_area" "_law_area" (defArgs s__law_area) (defBody s__law_area) (defScope s__law_area) [] [] fa fd) : FnOk P w K mg base CX0 1 fa fd ["_law_a", "_law_b", "_law_c"] (spOf K false (C3 m__law_area)) :=
  fn_ok3 (m := mb__law_area) (post := fun _ => []) F sc__law_area (by decide) rfl fun cdv A outer s H E hr v_l_a v_l_b v_l_c => (bs_asg 3 sc__law_area.nd (ep_mul (ep_sub (ep_fst (ep_var 1)) (ep_fst (ep_var 0))) (ep_sub (ep_snd (ep_var 2)) (ep_snd (ep_var 1)))) fun v_l_one => (bs_ret (ep_sub (ep_var 3) (ep_mul (ep_sub (ep_snd (ep_var 1)) (ep_snd (ep_var 0))) (ep_sub (ep_fst (ep_var 2)) (ep_fst (ep_var 1)))))))
noncomputable def mb__law_whole (v_l_found : Int) : Option (Out Bool Unit) := (oret (oand (oisi (some v_l_found) true) (onot (oisi (some v_l_found) false))))
noncomputable def m__law_whole (v_l_found : Int) : Option Bool := retv (mb__law_whole v_l_found)
theorem sc__law_whole : FnScope ["_law_found"] ["_law_found"] (defScope s__law_whole) := ⟨rfl, rfl, rfl, by decide +kernel, rfl, by decide +kernel, by decide +kernel⟩
theorem ok__law_whole (B : Fr mg)  (F : FunD K "_law_whole" "_law_whole" (defArgs s__law_whole) (defBody s__law_whole) (defScope s__law_whole) [] [] fa fd) : FnOk P w K mg base CX0 1 fa fd ["_law_found"] (spOf K false (C1 m__law_whole)) :=
  fn_ok1 (m := mb__law_whole) (post := fun _ => []) F sc__law_whole (by decide) rfl fun cdv A outer s H E hr v_l_found => (bs_ret (ep_and (ep_isi (t := "int") true B.b_isinstance B.b_int (by decide +kernel) (by decide +kernel) (ep_var 0)) (ep_one (ep_not (ep_isi (t := "bool") false B.b_isinstance B.b_bool (by decide +kernel) (by decide +kernel) (ep_var 0))))))
noncomputable def mb__law_into_all (v_l_found : Tri) : Option (Out Int Unit) := (Option.bind (some (0 : Int)) fun (v_l_one : Int) => (Option.bind (otl (some v_l_found)) fun xs4 => thenO (loopL (fun (x2 : Int) (g1 : (Int)) => (Option.bind (oabs (some x2)) fun (v_l_other : Int) => (thenO (loopW (fun (g3 : (Int × Int)) => (ogt (some g3.2) (some (0 : Int)))) (fun (g3 : (Int × Int)) => (bind2 (some g3.2) (omod (some g3.1) (some g3.2)) fun (v_l_one : Int) (v_l_other : Int) => (some (.go (v_l_one, v_l_other) : Out Int (Int × Int))))) (g1, v_l_other)) fun (g3 : (Int × Int)) => (some (.go (g3.1) : Out Int (Int)))))) xs4 (v_l_one)) fun (g1 : (Int)) => (oret (some g1))))
noncomputable def m__law_into_all (v_l_found : Tri) : Option Int := retv (mb__law_into_all v_l_found)
theorem sc__law_into_all : FnScope ["_law_found", "_law_one", "_law_number", "_law_other"] ["_law_found"] (defScope s__law_into_all) := ⟨rfl, rfl, rfl, by decide +kernel, rfl, by decide +kernel, by decide +kernel⟩
theorem ok__law_into_all (B : Fr mg)  (F : FunD K "_law_into_all" "_law_into_all" (defArgs s__law_into_all) (defBody s__law_into_all) (defScope s__law_into_all) [] [] fa fd) : FnOk P w K mg base CX0 1 fa fd ["_law_found"] (spOf K false (C1 m__law_into_all)) :=
  fn_ok1 (m := mb__law_into_all) (post := fun _ => []) F sc__law_into_all (by decide) rfl fun cdv A outer s H E hr v_l_found => (bs_asg 1 sc__law_into_all.nd ep_int fun v_l_one => (bs_forT (fun (g1 : (Int)) => [.imm (α := Tri) v_l_found, .imm (α := Int) g1, .any, .any]) (v_l_one) (pg_name (i := 2) sc__law_into_all.nd rfl (by first | exact Or.inl rfl | exact Or.inr rfl)) (tg_name 2) (up_tri (ep_var 0)) (Wk.same (Wk.same (Wk.same (Wk.same Wk.nil)))) (fun x2 g1 => (bs_asg 3 sc__law_into_all.nd (ep_abs (by rfl) B.b_abs (ep_var 2)) fun v_l_other => (bs_while (fun (g3 : (Int × Int)) => [.imm (α := Tri) v_l_found, .imm (α := Int) g3.1, .imm (α := Int) x2, .imm (α := Int) g3.2]) (g1, v_l_other) (Wk.same (Wk.same (Wk.same (Wk.same Wk.nil)))) (fun g3 => (Cq.t (cq_gt (ep_var 3) ep_int) _)) (fun g3 => (bs_par 1 3 rfl sc__law_into_all.nd (ep_var 3) (ep_mod (ep_var 1) (ep_var 3)) fun v_l_one v_l_other => (bs_go (Wk.same (Wk.same (Wk.same (Wk.same Wk.nil))))))) (fun g3 => (bs_go (Wk.same (Wk.same (Wk.any (Wk.any Wk.nil)))))) .never))) (fun g1 => (bs_ret (ep_var 1))) .never rfl))
noncomputable def mb__law_away (v_l_found : Tri) (v_l_point_here : (Int × Int)) : Option (Out Int Unit) := (Option.bind (osub (otri (some v_l_found) (some (0 : Int))) (omul (ofst (some v_l_point_here)) (otri (some v_l_found) (some (2 : Int))))) fun (v_l_x : Int) => (Option.bind (osub (otri (some v_l_found) (some (1 : Int))) (omul (osnd (some v_l_point_here)) (otri (some v_l_found) (some (2 : Int))))) fun (v_l_y : Int) => (oret (oadd (omul (some v_l_x) (some v_l_x)) (omul (some v_l_y) (some v_l_y))))))
noncomputable def m__law_away (v_l_found : Tri) (v_l_point_here : (Int × Int)) : Option Int := retv (mb__law_away v_l_found v_l_point_here)
theorem sc__law_away : FnScope ["_law_found", "_law_point_here", "_law_x", "_law_y"] ["_law_found", "_law_point_here"] (defScope s__law_away) := ⟨rfl, rfl, rfl, by decide +kernel, rfl, by decide +kernel, by decide +kernel⟩
theorem ok__law_away (B : Fr mg)  (F : FunD K "_law_away" "_law_away" (defArgs s__law_away) (defBody s__law_away) (defScope s__law_away) [] [] fa fd) : FnOk P w K mg base CX0 1 fa fd ["_law_found", "_law_point_here"] (spOf K false (C2 m__law_away)) :=
  fn_ok2 (m := mb__law_away) (post := fun _ => []) F sc__law_away (by decide) rfl fun cdv A outer s H E hr v_l_found v_l_point_here => (bs_asg 2 sc__law_away.nd (ep_sub (ep_trix (ep_var 0) ep_int) (ep_mul (ep_fst (ep_var 1)) (ep_trix (ep_var 0) ep_int))) fun v_l_x => (bs_asg 3 sc__law_away.nd (ep_sub (ep_trix (ep_var 0) ep_int) (ep_mul (ep_snd (ep_var 1)) (ep_trix (ep_var 0) ep_int))) fun v_l_y => (bs_ret (ep_add (ep_mul (ep_var 2) (ep_var 2)) (ep_mul (ep_var 3) (ep_var 3))))))
noncomputable def mb__law_in_row (v_l_a : (Int × Int)) (v_l_b : (Int × Int)) (v_l_c : (Int × Int)) : Option (Out Bool Unit) := (tryO (bind3 (some v_l_a) (some v_l_b) (some v_l_c) mx_middle) (oret (some false)) (fun _ => (oret (oand (some true) (some true)))))
noncomputable def m__law_in_row (v_l_a : (Int × Int)) (v_l_b : (Int × Int)) (v_l_c : (Int × Int)) : Option Bool := retv (mb__law_in_row v_l_a v_l_b v_l_c)
theorem sc__law_in_row : FnScope ["_law_a", "_law_b", "_law_c", "e"] ["_law_a", "_law_b", "_law_c"] (defScope s__law_in_row) := ⟨rfl, rfl, rfl, by decide +kernel, rfl, by decide +kernel, by decide +kernel⟩
theorem ok__law_in_row (B : Fr mg)  (XF : Xf K mg) {fdx_middle : FuncData} (hx_middle : FnOk P w K mg base (L2.CX P w) 3 (He.ga K "middle") fdx_middle ["a", "b", "c"] (spX K false (fun _ => He.ga K "InRow") (C3 mx_middle))) (kx_middle : PySem.W.keepIn K (.ref (He.ga K "middle")) = true) (bx_middle : Binds K fdx_middle ["a", "b", "c"] []) (F : FunD K "_law_in_row" "_law_in_row" (defArgs s__law_in_row) (defBody s__law_in_row) (defScope s__law_in_row) [] [] fa fd) : FnOk P w K mg base CX0 4 fa fd ["_law_a", "_law_b", "_law_c"] (spOf K false (C3 m__law_in_row)) :=
  fn_ok3 (m := mb__law_in_row) (post := fun _ => []) F sc__law_in_row (by decide) rfl fun cdv A outer s H E hr v_l_a v_l_b v_l_c => (bs_try (cls := fun _ => He.ga K "InRow") (ms := fun _ => (oret (oand (some true) (some true)))) 3 hx_middle (hr.mono (by decide)) XF.d_middle kx_middle bx_middle (fun _ _ => (ag_cons (ep_var 0) (ag_cons (ep_var 1) (ag_cons (ep_var 2) ag_nil)))) c3 XF.g_FieldError (fun _ _ => XF.e_InRow_FieldError) sc__law_in_row.nd (fun _ a' oe pn z1 z2 => (bs_ret (ep_and (ep_isE 3 XF.c_InRow z1 z2 B.b_isinstance XF.g_InRow XF.k_InRow_InRow) (ep_one (ep_isT (t := "ValueError") 3 XF.c_InRow z1 z2 B.b_isinstance XF.v_ValueError (by decide +kernel) XF.k_InRow_ValueError))))) (bs_ret ep_bl))
noncomputable def mb_law (v_l_script : Script) : Option (Out Bool Unit) := (Option.bind (bind2 (some v_l_script) (some (0 : Int)) m__law_cell_at) fun (v_l_first : Int) => (Option.bind (some ([] : List (Int × Int))) fun (v_l_points_here : (List (Int × Int))) => (Option.bind (orng (some (3 : Int))) fun xs6 => thenO (loopL (fun (x2 : Int) (g1 : ((List (Int × Int)))) => (Option.bind (bind2 (bind2 (some v_l_script) (oadd (some (1 : Int)) (some x2)) m__law_cell_at) (some x2) m__law_mixed) fun (v_l_number : Int) => (Option.bind (bind2 (omod (some v_l_first) (some (6 : Int))) (some v_l_number) m__law_point) fun (v_l_point_here : (Int × Int)) => (Option.bind (oapp g1 (bind4 (some v_l_point_here) (omod (some v_l_first) (some (6 : Int))) (ofdiv (some v_l_first) (some (6 : Int))) (some v_l_number) m__law_grown)) fun (v_l_points_here : List (Int × Int)) => (some (.go (v_l_points_here) : Out Bool ((List (Int × Int))))))))) xs6 (v_l_points_here)) fun (g1 : ((List (Int × Int)))) => (Option.bind (some g1) fun (a5 : (List (Int × Int))) => unl3 a5 fun (v_l_a : (Int × Int)) (v_l_b : (Int × Int)) (v_l_c : (Int × Int)) => (oite (oeq (bind3 (some v_l_a) (some v_l_b) (some v_l_c) m__law_area) (some (0 : Int))) (noGo (oret (oand (bind3 (some v_l_a) (some v_l_b) (some v_l_c) m__law_in_row) (bind3 (some v_l_c) (some v_l_a) (some v_l_b) m__law_in_row)))) (Option.bind (bind3 (some v_l_a) (some v_l_b) (some v_l_c) m_middle) fun (v_l_found : Tri) => (oite (oor (onot (oisi (some v_l_found) true)) (oor (one_ (olen3 (some v_l_found)) (some (3 : Int))) (onot (oall (Option.bind (otl (some v_l_found)) fun xs4 => if capOk xs4.length then lcM oYes (fun (x3 : Int) => (Option.bind (some x3) m__law_whole)) xs4 else none))))) (noGo (oret (some false))) (oite (oor (olt (otri (some v_l_found) (some (2 : Int))) (some (1 : Int))) (one_ (Option.bind (some v_l_found) m__law_into_all) (some (1 : Int)))) (noGo (oret (some false))) (oite (onot (oeq3 (bind2 (some v_l_found) (some v_l_a) m__law_away) (bind2 (some v_l_found) (some v_l_b) m__law_away) (bind2 (some v_l_found) (some v_l_c) m__law_away))) (noGo (oret (some false))) (oret (oand (oeq (bind3 (some v_l_b) (some v_l_a) (some v_l_c) m_middle) (some v_l_found)) (oeq (bind3 (some v_l_c) (some v_l_a) (some v_l_b) m_middle) (some v_l_found)))))))))))))
noncomputable def m_law (v_l_script : Script) : Option Bool := retv (mb_law v_l_script)
theorem sc_law : FnScope ["_law_script", "_law_first", "_law_points_here", "_law_k", "_law_number", "_law_point_here", "_law_a", "_law_b", "_law_c", "_law_found", "_law_one"] ["_law_script"] (defScope s_law) := ⟨rfl, rfl, rfl, by decide +kernel, rfl, by decide +kernel, by decide +kernel⟩
theorem ok_law (B : Fr mg) (h__law_cell_at : Has P w K mg base 1 "_law_cell_at" ["_law_script", "_law_k"] (spOf K false (C2 m__law_cell_at))) (h__law_mixed : Has P w K mg base 1 "_law_mixed" ["_law_cell", "_law_k"] (spOf K false (C2 m__law_mixed))) (h__law_point : Has P w K mg base 1 "_law_point" ["_law_kind", "_law_number"] (spOf K false (C2 m__law_point))) (h__law_grown : Has P w K mg base 1 "_law_grown" ["_law_point_here", "_law_kind", "_law_by", "_law_number"] (spOf K false (C4 m__law_grown))) (h__law_area : Has P w K mg base 1 "_law_area" ["_law_a", "_law_b", "_law_c"] (spOf K false (C3 m__law_area))) (h__law_in_row : Has P w K mg base 4 "_law_in_row" ["_law_a", "_law_b", "_law_c"] (spOf K false (C3 m__law_in_row))) (h_middle : Has P w K mg base 3 "middle" ["a", "b", "c"] (spOf K false (C3 m_middle))) (h__law_whole : Has P w K mg base 1 "_law_whole" ["_law_found"] (spOf K false (C1 m__law_whole))) (h__law_into_all : Has P w K mg base 1 "_law_into_all" ["_law_found"] (spOf K false (C1 m__law_into_all))) (h__law_away : Has P w K mg base 1 "_law_away" ["_law_found", "_law_point_here"] (spOf K false (C2 m__law_away))) (F : FunD K "law" "law" (defArgs s_law) (defBody s_law) (defScope s_law) [] [] fa fd) : FnOk P w K mg base CX0 5 fa fd ["_law_script"] (spOf K false (C1 m_law)) :=
  fn_ok1 (m := mb_law) (post := fun _ => []) F sc_law (by decide) rfl fun cdv A outer s H E hr v_l_script => (bs_asg 1 sc_law.nd (ep_has h__law_cell_at hr (by decide) (ag_cons (ep_var 0) (ag_cons ep_int ag_nil)) c2) fun v_l_first => (bs_asgM 2 sc_law.nd (ep_lst al_nil) fun v_l_points_here => (bs_forR (fun (g1 : ((List (Int × Int)))) => [.imm (α := Script) v_l_script, .imm (α := Int) v_l_first, .mut (ML.mk (α := (Int × Int)) g1), .any, .any, .any, .any, .any, .any, .any, .any]) (v_l_points_here) (by rfl) B.b_range (pg_name (i := 3) sc_law.nd rfl (by first | exact Or.inl rfl | exact Or.inr rfl)) (tg_name 3) ep_int (Wk.same (Wk.same (Wk.same (Wk.same (Wk.same (Wk.same (Wk.same (Wk.same (Wk.same (Wk.same (Wk.same Wk.nil))))))))))) (fun x2 g1 => (bs_asg 4 sc_law.nd (ep_has h__law_mixed hr (by decide) (ag_cons (ep_has h__law_cell_at hr (by decide) (ag_cons (ep_var 0) (ag_cons (ep_add ep_int (ep_var 3)) ag_nil)) c2) (ag_cons (ep_var 3) ag_nil)) c2) fun v_l_number => (bs_asg 5 sc_law.nd (ep_has h__law_point hr (by decide) (ag_cons (ep_mod (ep_var 1) ep_int) (ag_cons (ep_var 4) ag_nil)) c2) fun v_l_point_here => (bs_app 2 (ep_has h__law_grown hr (by decide) (ag_cons (ep_var 5) (ag_cons (ep_mod (ep_var 1) ep_int) (ag_cons (ep_fdiv (ep_var 1) ep_int) (ag_cons (ep_var 4) ag_nil)))) c4) fun v_l_points_here => (bs_go (Wk.same (Wk.same (Wk.same (Wk.any (Wk.any (Wk.any (Wk.same (Wk.same (Wk.same (Wk.same (Wk.same Wk.nil)))))))))))))))) (fun g1 => (bs_freeze 2 (bs_unl3 6 7 8 (pg_lst rfl (pgs_cons (pg_name (i := 6) sc_law.nd rfl (by first | exact Or.inl rfl | exact Or.inr rfl)) (pgs_cons (pg_name (i := 7) sc_law.nd rfl (by first | exact Or.inl rfl | exact Or.inr rfl)) (pgs_cons (pg_name (i := 8) sc_law.nd rfl (by first | exact Or.inl rfl | exact Or.inr rfl)) pgs_nil)))) (ep_var 2) fun v_l_a v_l_b v_l_c => (bs_ifR (Cq.t (cq_eqS (ep_has h__law_area hr (by decide) (ag_cons (ep_var 6) (ag_cons (ep_var 7) (ag_cons (ep_var 8) ag_nil))) c3) ep_int) _) (bs_ret (ep_and (ep_has h__law_in_row hr (by decide) (ag_cons (ep_var 6) (ag_cons (ep_var 7) (ag_cons (ep_var 8) ag_nil))) c3) (ep_one (ep_has h__law_in_row hr (by decide) (ag_cons (ep_var 8) (ag_cons (ep_var 6) (ag_cons (ep_var 7) ag_nil))) c3)))) (bs_asg 9 sc_law.nd (ep_has h_middle hr (by decide) (ag_cons (ep_var 6) (ag_cons (ep_var 7) (ag_cons (ep_var 8) ag_nil))) c3) fun v_l_found => (bs_ifR (tp_w (wp_or (tp_not (tp_val (ep_isi (t := "tuple") true B.b_isinstance B.b_tuple (by decide +kernel) (by decide +kernel) (ep_var 9)))) (wp_or (Cq.t (cq_neS (ep_len3 (by rfl) B.b_len (ep_var 9)) ep_int) _) (wp_or1 (tp_not (tp_val (ep_all rfl (by rfl) B.b_all (EpF.lp (LcOk.ep rfl sc_law.nd (lc_T [("_law_one", 10)] (blkOk_by (N := ["_law_script", "_law_first", "_law_points_here", "_law_k", "_law_number", "_law_point_here", "_law_a", "_law_b", "_law_c", "_law_found", "_law_one"]) (sc := defScope s_law) (by decide +kernel)) (up_tri (ep_var 9)) (fun _ _ _ _ _ => (pg_name (i := 10) sc_law.nd rfl (by first | exact Or.inl rfl | exact Or.inr rfl))) (tg_name 10) (by intro j hj; simpa using hj) (fun _ _ _ _ _ => pts_nil) tts_nil (fun x3 _ _ _ _ _ => (ep_has h__law_whole hr (by decide) (ag_cons (ep_var 10) ag_nil) c1)) (by intro _; rfl))))))))))) (bs_ret ep_bl) (bs_ifR (tp_w (wp_or (Cq.t (cq_lt (ep_trix (ep_var 9) ep_int) ep_int) _) (wp_or1 (Cq.t (cq_neS (ep_has h__law_into_all hr (by decide) (ag_cons (ep_var 9) ag_nil) c1) ep_int) _)))) (bs_ret ep_bl) (bs_ifR (tp_not (tp_eq3 (ep_has h__law_away hr (by decide) (ag_cons (ep_var 9) (ag_cons (ep_var 6) ag_nil)) c2) (ep_has h__law_away hr (by decide) (ag_cons (ep_var 9) (ag_cons (ep_var 7) ag_nil)) c2) (ep_has h__law_away hr (by decide) (ag_cons (ep_var 9) (ag_cons (ep_var 8) ag_nil)) c2))) (bs_ret ep_bl) (bs_ret (ep_and (Cq.e (cq_eqD hr.units (ep_has h_middle hr (by decide) (ag_cons (ep_var 7) (ag_cons (ep_var 6) (ag_cons (ep_var 8) ag_nil))) c3) (ep_var 9)) _) (ep_one (Cq.e (cq_eqD hr.units (ep_has h_middle hr (by decide) (ag_cons (ep_var 8) (ag_cons (ep_var 6) (ag_cons (ep_var 7) ag_nil))) c3) (ep_var 9)) _)))))))))))) .never rfl)))
end G_k02
namespace G_k02
open PySem PySem.Spec PyProof.Rows L2 T

def d_twice_area : He.DefD := ⟨("twice_area", none), "twice_area", "twice_area", defArgs s_twice_area, defBody s_twice_area, defScope s_twice_area, [], []⟩
def d_sign : He.DefD := ⟨("sign", none), "sign", "sign", defArgs s_sign, defBody s_sign, defScope s_sign, [], []⟩
def d_turn : He.DefD := ⟨("turn", none), "turn", "turn", defArgs s_turn, defBody s_turn, defScope s_turn, [], []⟩
def d_far : He.DefD := ⟨("far", none), "far", "far", defArgs s_far, defBody s_far, defScope s_far, [], []⟩
def d_common : He.DefD := ⟨("common", none), "common", "common", defArgs s_common, defBody s_common, defScope s_common, [], []⟩
def d_middle : He.DefD := ⟨("middle", none), "middle", "middle", defArgs s_middle, defBody s_middle, defScope s_middle, [], []⟩
def d__law_cell_at : He.DefD := ⟨("_law_cell_at", none), "_law_cell_at", "_law_cell_at", defArgs s__law_cell_at, defBody s__law_cell_at, defScope s__law_cell_at, [], []⟩
def d__law_mixed : He.DefD := ⟨("_law_mixed", none), "_law_mixed", "_law_mixed", defArgs s__law_mixed, defBody s__law_mixed, defScope s__law_mixed, [], []⟩
def d__law_point : He.DefD := ⟨("_law_point", none), "_law_point", "_law_point", defArgs s__law_point, defBody s__law_point, defScope s__law_point, [], []⟩
def d__law_grown : He.DefD := ⟨("_law_grown", none), "_law_grown", "_law_grown", defArgs s__law_grown, defBody s__law_grown, defScope s__law_grown, [], []⟩
def d__law_points : He.DefD := ⟨("_law_points", none), "_law_points", "_law_points", defArgs s__law_points, defBody s__law_points, defScope s__law_points, [], []⟩
def d__law_area : He.DefD := ⟨("_law_area", none), "_law_area", "_law_area", defArgs s__law_area, defBody s__law_area, defScope s__law_area, [], []⟩
def d__law_whole : He.DefD := ⟨("_law_whole", none), "_law_whole", "_law_whole", defArgs s__law_whole, defBody s__law_whole, defScope s__law_whole, [], []⟩
def d__law_into_all : He.DefD := ⟨("_law_into_all", none), "_law_into_all", "_law_into_all", defArgs s__law_into_all, defBody s__law_into_all, defScope s__law_into_all, [], []⟩
def d__law_away : He.DefD := ⟨("_law_away", none), "_law_away", "_law_away", defArgs s__law_away, defBody s__law_away, defScope s__law_away, [], []⟩
def d__law_in_row : He.DefD := ⟨("_law_in_row", none), "_law_in_row", "_law_in_row", defArgs s__law_in_row, defBody s__law_in_row, defScope s__law_in_row, [], []⟩
def d_law : He.DefD := ⟨("law", none), "law", "law", defArgs s_law, defBody s_law, defScope s_law, [], []⟩
def fn_0 : List He.DefD := [d_twice_area, d_sign, d_turn, d_far, d_common, d_middle, d__law_cell_at, d__law_mixed, d__law_point, d__law_grown, d__law_points, d__law_area, d__law_whole, d__law_into_all, d__law_away, d__law_in_row, d_law]
def fn : List He.DefD := fn_0
def fa_0 : List He.Fa := [.glo "twice_area", .glo "sign", .glo "turn", .glo "far", .glo "common", .glo "middle", .glo "_law_cell_at", .glo "_law_mixed", .glo "_law_point", .glo "_law_grown", .glo "_law_points", .glo "_law_area", .glo "_law_whole", .glo "_law_into_all", .glo "_law_away", .glo "_law_in_row", .glo "law", .glo "FieldError", .glo "InRow", .free "int", .free "abs", .free "len", .free "range", .free "isinstance", .free "bool", .free "tuple", .free "all", .free "ValueError", .exc "InRow"]
def fa : List He.Fa := fa_0
def xb (K : PySem.W.Frag) : Bool := He.excC K (He.ga K "InRow") && (decide (PySem.W.exmOne K (.ref (He.ga K "InRow")) (.ref (He.ga K "FieldError")) = some true) && (decide (PySem.W.kitOne K (.ref (He.ga K "InRow")) (.ref (He.ga K "InRow")) = some true) && (decide (PySem.W.kitOne K (.ref (He.ga K "InRow")) (.type "ValueError") = some true))))
abbrev R : PySem.W.OpenRow := PySem.W.OpenLaw.row PySem.Challenge.rw_nearfields_k02_middles
abbrev hk : PySem.W.Hook := He.hookX 4 fa fn xb
def ob (s : PySem.W.SharedT) : He.AlD := He.obsXG 4 fa fn xb (HandSHeadRun.getT s)
theorem ob_eq (s : PySem.W.SharedT) : ob s = hk.obs s.abs := He.obsXG_eq (HandSHeadRun.getT_eq s)
def lo_0 : List Str := ["twice_area", "sign", "turn", "far", "common", "middle", "_law_cell_at", "_law_mixed", "_law_point", "_law_grown", "_law_points", "_law_area", "_law_whole", "_law_into_all", "_law_away", "_law_in_row", "FieldError", "InRow"]
abbrev lo : List Str := lo_0
theorem run (w : World) : HandSHeadRun.RunEq R (PySem.W.view R.prog [21]) hk ob 9000 lo w := by
  intro os
  kernel_rfl
end G_k02
namespace G_k02
open PySem PySem.Spec PyProof.Rows L2 T
theorem tw {a b c : Pt} (ha : pb a) (hb : pb b) (hc : pb c) : m_twice_area a b c = some (area a b c) := by
  unfold m_twice_area mb_twice_area
  simp only [ofst_s, osnd_s, osub_s, omul_b (bd_sub' hb.1 ha.1) (bd_sub' hc.2 ha.2), omul_b (bd_sub' hb.2 ha.2) (bd_sub' hc.1 ha.1), oret_s, retv_ret]
  rfl
theorem sg (x : Int) : m_sign x = some (sgn x) := rfl
theorem tn {a b c : Pt} (ha : pb a) (hb : pb b) (hc : pb c) : m_turn a b c = some (sgn (area a b c)) := by
  unfold m_turn mb_turn
  simp only [bind3_s, tw ha hb hc, bind_s, sg, oret_s, retv_ret]
theorem fr {a b : Pt} (ha : pb a) (hb : pb b) : m_far a b = some (far a b) := by
  unfold m_far mb_far
  simp only [ofst_s, osnd_s, osub_s, opow2_b (bd_sub' ha.1 hb.1), opow2_b (bd_sub' ha.2 hb.2), oadd_s, oret_s, retv_ret]
  rfl
theorem mxd (c k : Int) : ∃ v, m__law_mixed c k = some v ∧ 0 ≤ v := by
  refine ⟨((c + 61 * k + 7) * 1000009000027000027) % 1000000000000000000000007, ?_, Int.emod_nonneg _ (by decide)⟩
  unfold m__law_mixed mb__law_mixed
  rw [omul_L k (by decide) (by decide), show opow (some (1000003 : Int)) (some (3 : Int)) = some 1000009000027000027 from rfl, show opow (some (10 : Int)) (some (24 : Int)) = some 1000000000000000000000000 from rfl]
  simp only [oadd_s]
  rw [omul_R _ (by decide) (by decide), omod_s _ (by decide), oret_s, retv_ret]
  rfl
theorem cel {s : Script} {k : Int} (h : 0 ≤ k) : ∃ v, m__law_cell_at s k = some v := by
  unfold m__law_cell_at mb__law_cell_at
  rw [oslen_s, olt_s, oite_s]
  by_cases e : k < s.ns.length
  · rw [if_pos (decide_eq_true e)]
    have e2 : k.toNat < s.ns.length := by omega
    refine ⟨s.ns[k.toNat], ?_⟩
    show retv (noGo (oret (L2.atI s.ns k))) = _
    rw [atI_pos h, List.getElem?_eq_getElem e2, oret_s, noGo_ret, retv_ret]
  · rw [if_neg (by rw [decide_eq_true_eq]; exact e)]
    exact ⟨0, rfl⟩
theorem pnt {k n : Int} (hn : 0 ≤ n) : ∃ p, m__law_point k n = some p ∧ (k ≠ 2 → box 17 p) ∧ box 1000000 p := by
  unfold m__law_point mb__law_point
  have d (b : Int) (h0 : 0 < b) (h : b < 18446744073709551616) : ofdiv (some n) (some b) = some (n / b) := ofdiv_q n h0 h
  simp only [oeq_s, oite_s, decide_eq_true_eq]
  by_cases k0 : k = 0
  · refine ⟨(n % 3, n / 3 % 3), ?_, fun _ => ⟨by dsimp; omega, by dsimp; omega, by dsimp; omega, by dsimp; omega⟩, ⟨by dsimp; omega, by dsimp; omega, by dsimp; omega, by dsimp; omega⟩⟩
    rw [if_pos k0, omod_s _ (by decide), d 3 (by decide) (by decide), omod_s _ (by decide)]
    rfl
  rw [if_neg k0]
  by_cases k1 : k = 1
  · refine ⟨(n % 5 - 1, n / 5 % 5), ?_, fun _ => ⟨by dsimp; omega, by dsimp; omega, by dsimp; omega, by dsimp; omega⟩, ⟨by dsimp; omega, by dsimp; omega, by dsimp; omega, by dsimp; omega⟩⟩
    rw [if_pos k1, omod_s _ (by decide), d 5 (by decide) (by decide), omod_s _ (by decide)]
    rfl
  rw [if_neg k1]
  by_cases k2 : k = 2
  · refine ⟨(n % 2000001 - 1000000, n / 2000001 % 2000001 - 1000000), ?_, fun c => absurd k2 c, ⟨by dsimp; omega, by dsimp; omega, by dsimp; omega, by dsimp; omega⟩⟩
    rw [if_pos k2, omod_s _ (by decide), d 2000001 (by decide) (by decide), omod_s _ (by decide)]
    rfl
  rw [if_neg k2]
  by_cases k3 : k = 3
  · rw [if_pos k3, omod_s _ (by decide), d 9 (by decide) (by decide), omod_s _ (by decide), oeq_s, ob2i_s, bind_s, osub_s, omul_L _ (by decide) (by decide), oadd_s]
    by_cases e : n / 9 % 5 = 1
    · exact ⟨(n % 9 - 4, 2 * (n % 9) + 1), by rw [if_pos (decide_eq_true e)]; rfl, fun _ => ⟨by dsimp; omega, by dsimp; omega, by dsimp; omega, by dsimp; omega⟩, ⟨by dsimp; omega, by dsimp; omega, by dsimp; omega, by dsimp; omega⟩⟩
    · exact ⟨(n % 9 - 4, 2 * (n % 9) + 0), by rw [if_neg (by rw [decide_eq_true_eq]; exact e)]; rfl, fun _ => ⟨by dsimp; omega, by dsimp; omega, by dsimp; omega, by dsimp; omega⟩, ⟨by dsimp; omega, by dsimp; omega, by dsimp; omega, by dsimp; omega⟩⟩
  rw [if_neg k3, omod_s (b := 12) _ (by decide), d 12 (by decide) (by decide), omod_s (b := 6) _ (by decide), omod_s (b := 9) _ (by decide), ogt_s, oand_ss]
  by_cases k4 : (decide (k = 4) && decide (0 < n / 12 % 6)) = true
  · rw [oite_s, if_pos k4]
    have m : (n % 12).toNat < ([(5, 0), (4, 3), (3, 4), (0, 5), (-3, 4), (-4, 3), (-5, 0), (-4, -3), (-3, -4), (0, -5), (3, -4), (4, -3)] : List Pt).length := by show (n % 12).toNat < 12; omega
    have A : ∀ p ∈ ([(5, 0), (4, 3), (3, 4), (0, 5), (-3, 4), (-4, 3), (-5, 0), (-4, -3), (-3, -4), (0, -5), (3, -4), (4, -3)] : List Pt), box 17 p := by decide
    refine ⟨_, ?_, fun _ => A _ (List.getElem_mem m), box_mono (A _ (List.getElem_mem m)) (by decide)⟩
    show retv (noGo (oret (L2.atI [(5, 0), (4, 3), (3, 4), (0, 5), (-3, 4), (-4, 3), (-5, 0), (-4, -3), (-3, -4), (0, -5), (3, -4), (4, -3)] (n % 12)))) = _
    rw [atI_pos (by omega), List.getElem?_eq_getElem m]
    rfl
  · rw [oite_s, if_neg k4]
    exact ⟨(n % 12 - 6, n / 12 % 9 - 4), rfl, fun _ => ⟨by dsimp; omega, by dsimp; omega, by dsimp; omega, by dsimp; omega⟩, ⟨by dsimp; omega, by dsimp; omega, by dsimp; omega, by dsimp; omega⟩⟩
theorem grw {p : Pt} {k b n : Int} (h1 : k ≠ 2 → box 17 p) (h2 : box 1000000 p) : ∃ q, m__law_grown p k b n = some q ∧ box 1000000 q := by
  unfold m__law_grown mb__law_grown
  rw [bind_s, oeq_s, omod_s _ (by decide), olt_s, oor_ss, oite_s]
  by_cases c : (decide (k = 2) || decide (b % 4 < 2)) = true
  · rw [if_pos c]
    exact ⟨p, rfl, h2⟩
  · rw [if_neg c]
    have c1 : k ≠ 2 := fun e => c (by rw [decide_eq_true e]; rfl)
    have c2 : ¬ b % 4 < 2 := fun e => c (by rw [decide_eq_true e, Bool.or_true])
    obtain ⟨x, y⟩ := p
    obtain ⟨g1, g2, g3, g4⟩ := h1 c1
    dsimp at g1 g2 g3 g4
    have c3 : b % 4 - 2 = 0 ∨ b % 4 - 2 = 1 := by omega
    have u : ∀ t : Int, t = 1000 ∨ t = 50000 → ∃ q, retv (Option.bind (some t) fun v_l_times => (Option.bind (osub (omod (ofdiv (some b) (some (4 : Int))) (some (90001 : Int))) (some (45000 : Int))) fun (v_l_away : Int) => (Option.bind (ob2i (oeq (omod (ofdiv (some n) (opow (some (10 : Int)) (some (9 : Int)))) (some (9 : Int))) (some (1 : Int)))) fun (v_l_off : Int) => (oret (omk2 (oadd (oadd (omul (some x) (some v_l_times)) (some v_l_away)) (some v_l_off)) (osub (omul (some y) (some v_l_times)) (some v_l_away))) : Option (Out Pt Unit))))) = some q ∧ box 1000000 q := fun t ht => by
      rw [show opow (some (10 : Int)) (some (9 : Int)) = some 1000000000 from rfl, ofdiv_q b (by decide) (by decide), ofdiv_q n (by decide) (by decide), omod_s _ (by decide), omod_s _ (by decide), oeq_s, ob2i_s, osub_s, bind_s, bind_s, bind_s, omul_R _ (by omega) (by omega), omul_R _ (by omega) (by omega), oadd_s, oadd_s, osub_s, omk2_s, oret_s, retv_ret]
      refine ⟨_, rfl, ?_⟩
      have e : (0 : Int) ≤ (if decide (n / 1000000000 % 9 = 1) = true then 1 else 0) ∧ (if decide (n / 1000000000 % 9 = 1) = true then (1 : Int) else 0) ≤ 1 := by
        by_cases e : n / 1000000000 % 9 = 1
        · rw [if_pos (decide_eq_true e)]; decide
        · rw [if_neg (by rw [decide_eq_true_eq]; exact e)]; decide
      rcases ht with rfl | rfl
      · exact ⟨by dsimp; omega, by dsimp; omega, by dsimp; omega, by dsimp; omega⟩
      · exact ⟨by dsimp; omega, by dsimp; omega, by dsimp; omega, by dsimp; omega⟩
    rw [osub_s]
    rcases c3 with c3 | c3
    · rw [c3]
      exact u 1000 (.inl rfl)
    · rw [c3]
      exact u 50000 (.inr rfl)
theorem lar {a b c : Pt} (ha : pb a) (hb : pb b) (hc : pb c) : m__law_area a b c = some (area a b c) := by
  unfold m__law_area mb__law_area
  simp only [ofst_s, osnd_s, osub_s, omul_b (bd_sub' hb.1 ha.1) (bd_sub' hc.2 hb.2), omul_b (bd_sub' hb.2 ha.2) (bd_sub' hc.1 hb.1), bind_s, oret_s, retv_ret, Option.some.injEq]
  unfold area
  grind
/-! greatest common measures -/
theorem gcdW {β : Type} : ∀ (n : Nat) (a b : Nat), b ≤ n → loopW (fun (g : (Int × Int)) => (ogt (some g.2) (some (0 : Int)))) (fun (g : (Int × Int)) => (bind2 (some g.2) (omod (some g.1) (some g.2)) fun (o : Int) (t : Int) => (some (.go (o, t) : Out β (Int × Int))))) ((a : Int), (b : Int)) = some (.go (((Nat.gcd a b : Nat) : Int), 0))
  | n, a, 0, _ => by
    rw [loopW_eq, ogt_s, bind_s, if_neg (by show ¬ decide ((0 : Int) < ((0 : Nat) : Int)) = true; decide), Nat.gcd_zero_right]
    rfl
  | 0, a, b + 1, h => absurd h (by omega)
  | n + 1, a, b + 1, h => by
    rw [loopW_eq, ogt_s, bind_s, if_pos (by rw [decide_eq_true_eq]; dsimp; omega), omod_s _ (by dsimp; omega), bind2_s, bind_s]
    show loopW _ _ (((b + 1 : Nat) : Int), (a : Int) % ((b + 1 : Nat) : Int)) = _
    rw [show (a : Int) % ((b + 1 : Nat) : Int) = ((a % (b + 1) : Nat) : Int) from (Int.natCast_emod _ _).symm, gcdW n (b + 1) (a % (b + 1)) (by have : a % (b + 1) < b + 1 := Nat.mod_lt a (Nat.succ_pos b); omega), Nat.gcd_comm (b + 1), ← Nat.gcd_rec, Nat.gcd_comm]
theorem abs_s (x : Int) : oabs (some x) = some ((x.natAbs : Nat) : Int) := by
  show some (if x < 0 then -x else x) = _
  congr 1
  by_cases h : x < 0
  · rw [if_pos h]; omega
  · rw [if_neg h]; omega
theorem com (x y : Int) : m_common x y = some ((Nat.gcd x.natAbs y.natAbs : Nat) : Int) := by
  unfold m_common mb_common
  rw [abs_s, bind_s, abs_s, bind_s, gcdW _ _ _ (Nat.le_refl _), thenO_go]
  rfl
def g3 (x y w : Int) : Nat := Nat.gcd (Nat.gcd x.natAbs y.natAbs) w.natAbs
theorem g3_neg (x y w : Int) : g3 (-x) (-y) (-w) = g3 x y w := by unfold g3; rw [Int.natAbs_neg, Int.natAbs_neg, Int.natAbs_neg]
theorem g3_mul (h x y w : Int) : g3 (h * x) (h * y) (h * w) = h.natAbs * g3 x y w := by unfold g3; rw [Int.natAbs_mul, Int.natAbs_mul, Int.natAbs_mul, Nat.gcd_mul_left, Nat.gcd_mul_left]
theorem into (t : Tri) : m__law_into_all t = some ((g3 t.a t.b t.c : Nat) : Int) := by
  unfold m__law_into_all mb__law_into_all
  have step (x : Nat) (y : Int) : (fun (x2 : Int) (g1 : (Int)) => (Option.bind (oabs (some x2)) fun (v_l_other : Int) => (thenO (loopW (fun (g3 : (Int × Int)) => (ogt (some g3.2) (some (0 : Int)))) (fun (g3 : (Int × Int)) => (bind2 (some g3.2) (omod (some g3.1) (some g3.2)) fun (v_l_one : Int) (v_l_other : Int) => (some (.go (v_l_one, v_l_other) : Out Int (Int × Int))))) (g1, v_l_other)) fun (g3 : (Int × Int)) => (some (.go (g3.1) : Out Int (Int)))))) y (x : Int) = some (.go ((Nat.gcd x y.natAbs : Nat) : Int)) := by
    dsimp only
    rw [abs_s, bind_s, gcdW _ _ _ (Nat.le_refl _), thenO_go]
  rw [bind_s]
  show retv (thenO (loopL _ [t.a, t.b, t.c] ((0 : Nat) : Int)) _) = _
  rw [loopL_go (step _ _), loopL_go (step _ _), loopL_go (step _ _), loopL_nil, thenO_go, Nat.gcd_zero_left]
  rfl
/-! the middle -/
def cx (a b c : Pt) : Int := a.1 * (2 * area a b c) + far a b * (c.2 - a.2) - far a c * (b.2 - a.2)
def cy (a b c : Pt) : Int := a.2 * (2 * area a b c) + far a c * (b.1 - a.1) - far a b * (c.1 - a.1)
def hh (x y w : Int) : Int := (g3 x y w : Int) * sgn w
def mid (x y w : Int) : Tri := ⟨x.fdiv (hh x y w), y.fdiv (hh x y w), w.fdiv (hh x y w)⟩
theorem mid_neg (x y w : Int) : mid (-x) (-y) (-w) = mid x y w := by
  unfold mid hh
  rw [g3_neg, sgn_neg, Int.mul_neg, Int.neg_fdiv_neg, Int.neg_fdiv_neg, Int.neg_fdiv_neg]
theorem cx_rot (a b c : Pt) : cx c a b = cx a b c := by unfold cx area far; grind
theorem cy_rot (a b c : Pt) : cy c a b = cy a b c := by unfold cy area far; grind
theorem cx_flip (a b c : Pt) : cx b a c = -cx a b c := by unfold cx area far; grind
theorem cy_flip (a b c : Pt) : cy b a c = -cy a b c := by unfold cy area far; grind
theorem bd_cx {a b c : Pt} (ha : pb a) (hb : pb b) (hc : pb c) : bd 127 (cx a b c) :=
  bd_sub (n := 126) (m := 124) (bd_add (n := 125) (m := 124) (bd_mul ha.1 (bd_mul (n := 2) (show bd 2 2 by unfold bd; decide) (bd_area ha hb hc))) (bd_mul (bd_far ha hb) (bd_sub' hc.2 ha.2))) (bd_mul (bd_far ha hc) (bd_sub' hb.2 ha.2))
theorem bd_cy {a b c : Pt} (ha : pb a) (hb : pb b) (hc : pb c) : bd 127 (cy a b c) :=
  bd_sub (n := 126) (m := 124) (bd_add (n := 125) (m := 124) (bd_mul ha.2 (bd_mul (n := 2) (show bd 2 2 by unfold bd; decide) (bd_area ha hb hc))) (bd_mul (bd_far ha hc) (bd_sub' hb.1 ha.1))) (bd_mul (bd_far ha hb) (bd_sub' hc.1 ha.1))
theorem g3_pos {x y w : Int} (h : w ≠ 0) : 0 < g3 x y w := Nat.gcd_pos_of_pos_right _ (by omega)
theorem g3_le {x y w : Int} (h : w ≠ 0) : g3 x y w ≤ w.natAbs := Nat.le_of_dvd (by omega) (Nat.gcd_dvd_right _ _)
theorem sgn_one {w : Int} (h : w ≠ 0) : sgn w = 1 ∨ sgn w = -1 := by
  have := sgn_bd w
  have : sgn w ≠ 0 := fun e => h (sgn_eq0.mp e)
  omega
theorem hh_abs {x y w : Int} (h : w ≠ 0) : (hh x y w).natAbs = g3 x y w := by
  unfold hh
  rw [Int.natAbs_mul]
  rcases sgn_one h with e | e <;> rw [e] <;> simp
theorem mdl {a b c : Pt} (ha : pb a) (hb : pb b) (hc : pb c) (h : area a b c ≠ 0) : m_middle a b c = some (mid (cx a b c) (cy a b c) (2 * area a b c)) := by
  have e0 : decide (sgn (area a b c) = 0) = false := decide_eq_false fun e => h (sgn_eq0.mp e)
  have S : bd 85 (2 * area a b c) := bd_mul (n := 2) (show bd 2 2 by unfold bd; decide) (bd_area ha hb hc)
  have f1 := bd_far ha hb
  have f2 := bd_far ha hc
  have hw : 2 * area a b c ≠ 0 := by omega
  have H : bd 85 (hh (cx a b c) (cy a b c) (2 * area a b c)) := by unfold bd; rw [hh_abs hw]; exact Nat.lt_of_le_of_lt (g3_le hw) S
  have H0 : hh (cx a b c) (cy a b c) (2 * area a b c) ≠ 0 := by
    intro e
    have := hh_abs (x := cx a b c) (y := cy a b c) hw
    rw [e] at this
    have := g3_pos (x := cx a b c) (y := cy a b c) hw
    omega
  unfold m_middle mb_middle
  simp only [bind3_s, tn ha hb hc, oeq_s, e0, oite_s, if_false, Bool.false_eq_true, tw ha hb hc, omul_L (a := 2) (area a b c) (by decide) (by decide), bind_s, bind2_s, fr ha hb, fr ha hc, ofst_s, osnd_s, osub_s, omul_b ha.1 S, omul_b ha.2 S, omul_b f1 (bd_sub' hc.2 ha.2), omul_b f1 (bd_sub' hc.1 ha.1), omul_b f2 (bd_sub' hb.2 ha.2), omul_b f2 (bd_sub' hb.1 ha.1), oadd_s]
  show retv (Option.bind (omul (Option.bind (m_common (cx a b c) (cy a b c)) fun x => m_common x (2 * area a b c)) (m_sign (2 * area a b c))) fun by_ => oret (omk3 (ofdiv (some (cx a b c)) (some by_)) (ofdiv (some (cy a b c)) (some by_)) (ofdiv (some (2 * area a b c)) (some by_)))) = _
  have sb := sgn_bd (2 * area a b c)
  rw [com, bind_s, com, Int.natAbs_natCast, sg, omul_R _ (by omega) (by omega), bind_s]
  show retv (oret (omk3 (ofdiv _ (some (hh (cx a b c) (cy a b c) (2 * area a b c)))) (ofdiv _ (some (hh (cx a b c) (cy a b c) (2 * area a b c)))) (ofdiv _ (some (hh (cx a b c) (cy a b c) (2 * area a b c)))))) = _
  rw [ofdiv_s _ H0 H, ofdiv_s _ H0 H, ofdiv_s _ H0 H]
  rfl
/-- what the middle keeps -/
theorem mid_facts {x y w : Int} (hw : w ≠ 0) : ∃ h : Int, h ≠ 0 ∧ x = h * (mid x y w).a ∧ y = h * (mid x y w).b ∧ w = h * (mid x y w).c ∧ 0 < (mid x y w).c ∧ g3 (mid x y w).a (mid x y w).b (mid x y w).c = 1 := by
  have G := g3_pos (x := x) (y := y) hw
  have A := hh_abs (x := x) (y := y) hw
  have H0 : hh x y w ≠ 0 := by omega
  have dv (z : Int) (h : (g3 x y w : Nat) ∣ z.natAbs) : z = hh x y w * z.fdiv (hh x y w) := by
    have : hh x y w ∣ z := Int.natAbs_dvd_natAbs.mp (by rw [A]; exact h)
    obtain ⟨q, e⟩ := this
    rw [e, Int.mul_fdiv_cancel_left _ H0]
  have e1 := dv x (Nat.dvd_trans (Nat.gcd_dvd_left _ _) (Nat.gcd_dvd_left _ _))
  have e2 := dv y (Nat.dvd_trans (Nat.gcd_dvd_left _ _) (Nat.gcd_dvd_right _ _))
  have e3 := dv w (Nat.gcd_dvd_right _ _)
  refine ⟨hh x y w, H0, e1, e2, e3, ?_, ?_⟩
  · show 0 < w.fdiv (hh x y w)
    have s : sgn w = sgn (hh x y w) * sgn (w.fdiv (hh x y w)) := by rw [← sgn_mul, ← e3]
    have s2 : sgn (hh x y w) = sgn w := by
      unfold hh
      rw [sgn_mul, sgn_pos (show (0 : Int) < (g3 x y w : Int) by omega), Int.one_mul]
      rcases sgn_one hw with e | e <;> rw [e] <;> rfl
    rw [s2] at s
    rcases sgn_one hw with e | e <;> rw [e] at s
    · have : sgn (w.fdiv (hh x y w)) = 1 := by omega
      rw [sgn_eq] at this
      exact Int.sign_eq_one_iff_pos.mp this
    · have : sgn (w.fdiv (hh x y w)) = 1 := by omega
      rw [sgn_eq] at this
      exact Int.sign_eq_one_iff_pos.mp this
  · have := g3_mul (hh x y w) (mid x y w).a (mid x y w).b (mid x y w).c
    rw [show hh x y w * (mid x y w).a = x from e1.symm, show hh x y w * (mid x y w).b = y from e2.symm, show hh x y w * (mid x y w).c = w from e3.symm, A] at this
    exact Nat.eq_of_mul_eq_mul_left G (by omega)
theorem bd_dv {n : Nat} {h q z : Int} (h0 : h ≠ 0) (e : z = h * q) (b : bd n z) : bd n q := by
  unfold bd at b ⊢
  rw [e, Int.natAbs_mul] at b
  have : 0 < h.natAbs := by omega
  exact Nat.lt_of_le_of_lt (Nat.le_mul_of_pos_left _ this) b
def away (t : Tri) (p : Pt) : Int := (t.a - p.1 * t.c) * (t.a - p.1 * t.c) + (t.b - p.2 * t.c) * (t.b - p.2 * t.c)
theorem awy {t : Tri} {p : Pt} (hp : pb p) (h1 : bd 127 t.a) (h2 : bd 127 t.b) (h3 : bd 85 t.c) : m__law_away t p = some (away t p) := by
  have s1 : bd 128 (t.a - p.1 * t.c) := bd_sub (n := 127) (m := 125) h1 (bd_mul hp.1 h3)
  have s2 : bd 128 (t.b - p.2 * t.c) := bd_sub (n := 127) (m := 125) h2 (bd_mul hp.2 h3)
  unfold m__law_away mb__law_away
  simp only [ofst_s, osnd_s, show otri (some t) (some (0 : Int)) = some t.a from rfl, show otri (some t) (some (1 : Int)) = some t.b from rfl, show otri (some t) (some (2 : Int)) = some t.c from rfl, omul_b hp.1 h3, omul_b hp.2 h3, osub_s, bind_s, omul_b s1 s1, omul_b s2 s2, oadd_s, oret_s, retv_ret]
  rfl
theorem away_mul (h : Int) (t : Tri) (p : Pt) : h * h * away t p = away ⟨h * t.a, h * t.b, h * t.c⟩ p := by unfold away; grind
theorem away_eq (a b c : Pt) : away ⟨cx a b c, cy a b c, 2 * area a b c⟩ a = away ⟨cx a b c, cy a b c, 2 * area a b c⟩ b := by unfold away cx cy area far; grind
theorem away_rot (a b c p : Pt) : away ⟨cx c a b, cy c a b, 2 * area c a b⟩ p = away ⟨cx a b c, cy a b c, 2 * area a b c⟩ p := by rw [cx_rot, cy_rot, show area c a b = area a b c from (area_rot c a b).symm]
theorem same {a b c : Pt} {h : Int} {t : Tri} (h0 : h ≠ 0) (e1 : cx a b c = h * t.a) (e2 : cy a b c = h * t.b) (e3 : 2 * area a b c = h * t.c) : away t a = away t b ∧ away t b = away t c := by
  have hq : h * h ≠ 0 := fun e => by rcases Int.mul_eq_zero.mp e with e | e <;> exact h0 e
  have k (p : Pt) : h * h * away t p = away ⟨cx a b c, cy a b c, 2 * area a b c⟩ p := by rw [away_mul, e1, e2, e3]
  have r := away_eq b c a
  rw [← away_rot b c a b, ← away_rot b c a c] at r
  exact ⟨Int.eq_of_mul_eq_mul_left hq (by rw [k, k, away_eq]), Int.eq_of_mul_eq_mul_left hq (by rw [k, k, r])⟩
theorem midx {a b c : Pt} (ha : pb a) (hb : pb b) (hc : pb c) (h : area a b c = 0) : mx_middle a b c = some (.inr 0) := by
  unfold mx_middle mbx_middle
  simp only [bind3_s, tn ha hb hc, bind_s, h]
  rfl
theorem row {a b c : Pt} (ha : pb a) (hb : pb b) (hc : pb c) (h : area a b c = 0) : m__law_in_row a b c = some true := by
  unfold m__law_in_row mb__law_in_row
  simp only [bind3_s, midx ha hb hc h]
  rfl
theorem loop3K {f : Int → List Pt → Option (Out Bool (List Pt))} {K : List Pt → Option (Out Bool Unit)} {r : Option Bool} (h : ∀ x, 0 ≤ x → ∃ p, pb p ∧ ∀ g : List Pt, g.length ≤ 10 → f x g = some (.go (g ++ [p])))
    (hk : ∀ a b c, pb a → pb b → pb c → retv (K [a, b, c]) = r) : retv (Option.bind (orng (some 3)) fun xs => thenO (loopL f xs []) K) = r := by
  obtain ⟨a, pa, ea⟩ := h 0 (by decide)
  obtain ⟨b, p1, eb⟩ := h 1 (by decide)
  obtain ⟨c, pc, ec⟩ := h 2 (by decide)
  rw [orng_s (by decide) (by decide), bind_s, show rngL 3 = [0, 1, 2] from rfl, loopL_go (ea _ (by decide)), loopL_go (eb _ (by simp)), loopL_go (ec _ (by simp)), loopL_nil, thenO_go]
  exact hk a b c pa p1 pc
theorem law_true (ns : List Int) (_ : ns.length ≤ 63) : m_law ⟨ns⟩ = some true := by
  obtain ⟨v, hv⟩ := cel (s := ⟨ns⟩) (k := 0) (by decide)
  unfold m_law mb_law
  simp only [bind2_s, hv, bind_s, omod_s v (show (0 : Int) < 6 by decide), ofdiv_q v (show (0 : Int) < 6 by decide) (by decide)]
  refine loop3K (fun x hx => ?_) fun a b c ha hb hc => ?_
  · obtain ⟨c, hc⟩ := cel (s := ⟨ns⟩) (k := 1 + x) (by omega)
    obtain ⟨n, hn, n0⟩ := mxd c x
    obtain ⟨p, hp, p1, p2⟩ := pnt (k := v % 6) n0
    obtain ⟨q, hq, q2⟩ := grw (b := v / 6) (n := n) p1 p2
    refine ⟨q, pb_of q2, fun g hg => ?_⟩
    simp only [oadd_s, bind2_s, hc, bind_s, hn, hp, bind4_s, hq]
    rw [oapp_s (by omega), bind_s]
  · unfold unl3
    simp only [bind3_s, lar ha hb hc]
    rw [oeq_s, oite_s]
    have er : area c a b = area a b c := (area_rot c a b).symm
    by_cases e : area a b c = 0
    · rw [if_pos (decide_eq_true e), row ha hb hc e, row hc ha hb (by rw [er, e])]
      rfl
    · rw [if_neg (by rw [decide_eq_true_eq]; exact e)]
      have hw : 2 * area a b c ≠ 0 := by omega
      obtain ⟨h, h0, e1, e2, e3, c0, g1⟩ := mid_facts (x := cx a b c) (y := cy a b c) hw
      have S : bd 85 (2 * area a b c) := bd_mul (n := 2) (show bd 2 2 by unfold bd; decide) (bd_area ha hb hc)
      have m2 : m_middle b a c = m_middle a b c := by
        rw [mdl hb ha hc (by rw [area_flip]; omega), mdl ha hb hc e, cx_flip, cy_flip, area_flip, Int.mul_neg, mid_neg]
      have m3 : m_middle c a b = m_middle a b c := by
        rw [mdl hc ha hb (by rw [er]; exact e), mdl ha hb hc e, cx_rot, cy_rot, er]
      rw [m2, m3, mdl ha hb hc e]
      generalize mid (cx a b c) (cy a b c) (2 * area a b c) = t at e1 e2 e3 c0 g1
      have b1 := bd_dv h0 e1 (bd_cx ha hb hc)
      have b2 := bd_dv h0 e2 (bd_cy ha hb hc)
      have b3 := bd_dv h0 e3 S
      obtain ⟨w1, w2⟩ := same h0 e1 e2 e3
      simp only [bind_s, bind2_s, into, awy ha b1 b2 b3, awy hb b1 b2 b3, awy hc b1 b2 b3, g1, ← w2, ← w1]
      rw [show otri (some t) (some (2 : Int)) = some t.c from rfl, olt_s, show decide (t.c < 1) = false from decide_eq_false (by omega)]
      rw [show otl (some t) = some [t.a, t.b, t.c] from rfl, bind_s, show (if capOk [t.a, t.b, t.c].length = true then lcM oYes (fun x3 => m__law_whole x3) [t.a, t.b, t.c] else none) = some [true, true, true] from rfl]
      rw [show oeq3 (some (away t a)) (some (away t a)) (some (away t a)) = some true by
        show (if away t a = away t a then some (decide (away t a = away t a)) else some false) = _
        rw [if_pos rfl, decide_eq_true rfl]]
      rw [oeq_s, decide_eq_true (rfl : t = t)]
      rfl
end G_k02
namespace G_k02
open PySem PySem.Spec PyProof.Rows L2 T
theorem facts {P : Program} {w : World} {K : PySem.W.Frag} {h : Heap} {mg : Str → Option Value} {f : Addr} (X : K.In h) (G : h.Ns mainGlobals mg) (hfa : mg ("law" : Str) = some (.ref f)) (cx : He.SaysX fa fn xb K) :
    ∃ fd : FuncData, (∀ (s : Shared) (v : Value), BindsTo s fd ⟨[v], []⟩ [("_law_script", v)]) ∧ ∀ base : Heap, K.In base → base.Ns mainGlobals mg → FnOk P w K mg base CX0 5 f fd ["_law_script"] (spOf K false (C1 m_law)) := by
  obtain ⟨c, hx⟩ := cx.both
  have B : Fr mg := ⟨(He.free_ok X G (c.fact 19 (f := .free "int") rfl)), (He.free_ok X G (c.fact 20 (f := .free "abs") rfl)), (He.free_ok X G (c.fact 21 (f := .free "len") rfl)), (He.free_ok X G (c.fact 22 (f := .free "range") rfl)), (He.free_ok X G (c.fact 23 (f := .free "isinstance") rfl)), (He.free_ok X G (c.fact 24 (f := .free "bool") rfl)), (He.free_ok X G (c.fact 25 (f := .free "tuple") rfl)), (He.free_ok X G (c.fact 26 (f := .free "all") rfl))⟩
  obtain ⟨x0, hx⟩ := He.ba hx
  obtain ⟨x1, hx⟩ := He.ba hx
  obtain ⟨x2, hx⟩ := He.ba hx
  have x3 := hx
  have XF : Xf K mg := ⟨(He.glo_ok X G (c.fact 17 (f := .glo "FieldError") rfl)), (He.glo_ok X G (c.fact 18 (f := .glo "InRow") rfl)), (He.glo_ok X G (c.fact 5 (f := .glo "middle") rfl)), (He.free_ok X G (c.fact 27 (f := .free "ValueError") rfl)), He.excC_ok x0, of_decide_eq_true x1, of_decide_eq_true x2, of_decide_eq_true x3⟩
  have XA_InRow := exA_of X G (c.fact 18 (f := .glo "InRow") rfl) (c.fact 28 (f := .exc "InRow") rfl)
  obtain ⟨fd0, F0⟩ := c.def_ 0 (d := d_twice_area) rfl
  have b0 : Binds K fd0 ["a", "b", "c"] [] := F0.bindsN fun _ _ _ _ _ _ us hl => match us, hl with | [_, _, _], _ => rfl
  obtain ⟨fd1, F1⟩ := c.def_ 1 (d := d_sign) rfl
  have b1 : Binds K fd1 ["number"] [] := F1.bindsN fun _ _ _ _ _ _ us hl => match us, hl with | [_], _ => rfl
  obtain ⟨fd2, F2⟩ := c.def_ 2 (d := d_turn) rfl
  have b2 : Binds K fd2 ["a", "b", "c"] [] := F2.bindsN fun _ _ _ _ _ _ us hl => match us, hl with | [_, _, _], _ => rfl
  obtain ⟨fd3, F3⟩ := c.def_ 3 (d := d_far) rfl
  have b3 : Binds K fd3 ["a", "b"] [] := F3.bindsN fun _ _ _ _ _ _ us hl => match us, hl with | [_, _], _ => rfl
  obtain ⟨fd4, F4⟩ := c.def_ 4 (d := d_common) rfl
  have b4 : Binds K fd4 ["one", "other"] [] := F4.bindsN fun _ _ _ _ _ _ us hl => match us, hl with | [_, _], _ => rfl
  obtain ⟨fd5, F5⟩ := c.def_ 5 (d := d_middle) rfl
  have b5 : Binds K fd5 ["a", "b", "c"] [] := F5.bindsN fun _ _ _ _ _ _ us hl => match us, hl with | [_, _, _], _ => rfl
  obtain ⟨fd6, F6⟩ := c.def_ 6 (d := d__law_cell_at) rfl
  have b6 : Binds K fd6 ["_law_script", "_law_k"] [] := F6.bindsN fun _ _ _ _ _ _ us hl => match us, hl with | [_, _], _ => rfl
  obtain ⟨fd7, F7⟩ := c.def_ 7 (d := d__law_mixed) rfl
  have b7 : Binds K fd7 ["_law_cell", "_law_k"] [] := F7.bindsN fun _ _ _ _ _ _ us hl => match us, hl with | [_, _], _ => rfl
  obtain ⟨fd8, F8⟩ := c.def_ 8 (d := d__law_point) rfl
  have b8 : Binds K fd8 ["_law_kind", "_law_number"] [] := F8.bindsN fun _ _ _ _ _ _ us hl => match us, hl with | [_, _], _ => rfl
  obtain ⟨fd9, F9⟩ := c.def_ 9 (d := d__law_grown) rfl
  have b9 : Binds K fd9 ["_law_point_here", "_law_kind", "_law_by", "_law_number"] [] := F9.bindsN fun _ _ _ _ _ _ us hl => match us, hl with | [_, _, _, _], _ => rfl
  obtain ⟨fd10, F10⟩ := c.def_ 10 (d := d__law_points) rfl
  have b10 : Binds K fd10 ["_law_script", "_law_most"] [] := F10.bindsN fun _ _ _ _ _ _ us hl => match us, hl with | [_, _], _ => rfl
  obtain ⟨fd11, F11⟩ := c.def_ 11 (d := d__law_area) rfl
  have b11 : Binds K fd11 ["_law_a", "_law_b", "_law_c"] [] := F11.bindsN fun _ _ _ _ _ _ us hl => match us, hl with | [_, _, _], _ => rfl
  obtain ⟨fd12, F12⟩ := c.def_ 12 (d := d__law_whole) rfl
  have b12 : Binds K fd12 ["_law_found"] [] := F12.bindsN fun _ _ _ _ _ _ us hl => match us, hl with | [_], _ => rfl
  obtain ⟨fd13, F13⟩ := c.def_ 13 (d := d__law_into_all) rfl
  have b13 : Binds K fd13 ["_law_found"] [] := F13.bindsN fun _ _ _ _ _ _ us hl => match us, hl with | [_], _ => rfl
  obtain ⟨fd14, F14⟩ := c.def_ 14 (d := d__law_away) rfl
  have b14 : Binds K fd14 ["_law_found", "_law_point_here"] [] := F14.bindsN fun _ _ _ _ _ _ us hl => match us, hl with | [_, _], _ => rfl
  obtain ⟨fd15, F15⟩ := c.def_ 15 (d := d__law_in_row) rfl
  have b15 : Binds K fd15 ["_law_a", "_law_b", "_law_c"] [] := F15.bindsN fun _ _ _ _ _ _ us hl => match us, hl with | [_, _, _], _ => rfl
  obtain ⟨fd16, F16⟩ := c.def_ 16 (d := d_law) rfl
  have e := hfa.symm.trans (He.glo_ok X G (c.fact 16 (f := .glo "law") rfl))
  cases e
  have bl := FunD.bindsA (ps := ["_law_script"]) F16 fun _ _ _ _ _ _ us hl => match us, hl with | [_], _ => rfl
  refine ⟨fd16, fun s v => bl s [v] rfl, fun base _ _ => ?_⟩
  have h_twice_area : Has P w K mg base 1 "twice_area" ["a", "b", "c"] (spOf K false (C3 m_twice_area)) := has_of (ok_twice_area B  F0) (He.glo_ok X G (c.fact 0 (f := .glo "twice_area") rfl)) F0.kp b0
  have h_sign : Has P w K mg base 1 "sign" ["number"] (spOf K false (C1 m_sign)) := has_of (ok_sign B  F1) (He.glo_ok X G (c.fact 1 (f := .glo "sign") rfl)) F1.kp b1
  have h_turn : Has P w K mg base 2 "turn" ["a", "b", "c"] (spOf K false (C3 m_turn)) := has_of (ok_turn B h_twice_area h_sign F2) (He.glo_ok X G (c.fact 2 (f := .glo "turn") rfl)) F2.kp b2
  have h_far : Has P w K mg base 1 "far" ["a", "b"] (spOf K false (C2 m_far)) := has_of (ok_far B  F3) (He.glo_ok X G (c.fact 3 (f := .glo "far") rfl)) F3.kp b3
  have h_common : Has P w K mg base 1 "common" ["one", "other"] (spOf K false (C2 m_common)) := has_of (ok_common B  F4) (He.glo_ok X G (c.fact 4 (f := .glo "common") rfl)) F4.kp b4
  have h_middle : Has P w K mg base 3 "middle" ["a", "b", "c"] (spOf K false (C3 m_middle)) := has_of (ok_middle B h_turn h_twice_area h_far h_common h_sign F5) (He.glo_ok X G (c.fact 5 (f := .glo "middle") rfl)) F5.kp b5
  have hx_middle := okx_middle (P := P) (w := w) (mg := mg) (base := base) B XA_InRow h_turn h_twice_area h_far h_common h_sign F5
  have h__law_cell_at : Has P w K mg base 1 "_law_cell_at" ["_law_script", "_law_k"] (spOf K false (C2 m__law_cell_at)) := has_of (ok__law_cell_at B  F6) (He.glo_ok X G (c.fact 6 (f := .glo "_law_cell_at") rfl)) F6.kp b6
  have h__law_mixed : Has P w K mg base 1 "_law_mixed" ["_law_cell", "_law_k"] (spOf K false (C2 m__law_mixed)) := has_of (ok__law_mixed B  F7) (He.glo_ok X G (c.fact 7 (f := .glo "_law_mixed") rfl)) F7.kp b7
  have h__law_point : Has P w K mg base 1 "_law_point" ["_law_kind", "_law_number"] (spOf K false (C2 m__law_point)) := has_of (ok__law_point B  F8) (He.glo_ok X G (c.fact 8 (f := .glo "_law_point") rfl)) F8.kp b8
  have h__law_grown : Has P w K mg base 1 "_law_grown" ["_law_point_here", "_law_kind", "_law_by", "_law_number"] (spOf K false (C4 m__law_grown)) := has_of (ok__law_grown B  F9) (He.glo_ok X G (c.fact 9 (f := .glo "_law_grown") rfl)) F9.kp b9
  have h__law_points : Has P w K mg base 2 "_law_points" ["_law_script", "_law_most"] (spOf K true (C2 m__law_points)) := has_of (ok__law_points B h__law_cell_at h__law_mixed h__law_point h__law_grown F10) (He.glo_ok X G (c.fact 10 (f := .glo "_law_points") rfl)) F10.kp b10
  have h__law_area : Has P w K mg base 1 "_law_area" ["_law_a", "_law_b", "_law_c"] (spOf K false (C3 m__law_area)) := has_of (ok__law_area B  F11) (He.glo_ok X G (c.fact 11 (f := .glo "_law_area") rfl)) F11.kp b11
  have h__law_whole : Has P w K mg base 1 "_law_whole" ["_law_found"] (spOf K false (C1 m__law_whole)) := has_of (ok__law_whole B  F12) (He.glo_ok X G (c.fact 12 (f := .glo "_law_whole") rfl)) F12.kp b12
  have h__law_into_all : Has P w K mg base 1 "_law_into_all" ["_law_found"] (spOf K false (C1 m__law_into_all)) := has_of (ok__law_into_all B  F13) (He.glo_ok X G (c.fact 13 (f := .glo "_law_into_all") rfl)) F13.kp b13
  have h__law_away : Has P w K mg base 1 "_law_away" ["_law_found", "_law_point_here"] (spOf K false (C2 m__law_away)) := has_of (ok__law_away B  F14) (He.glo_ok X G (c.fact 14 (f := .glo "_law_away") rfl)) F14.kp b14
  have h__law_in_row : Has P w K mg base 4 "_law_in_row" ["_law_a", "_law_b", "_law_c"] (spOf K false (C3 m__law_in_row)) := has_of (ok__law_in_row B  XF hx_middle F5.kp b5 F15) (He.glo_ok X G (c.fact 15 (f := .glo "_law_in_row") rfl)) F15.kp b15
  exact ok_law B h__law_cell_at h__law_mixed h__law_point h__law_grown h__law_area h__law_in_row h_middle h__law_whole h__law_into_all h__law_away F16
end G_k02
open PySem PySem.W PySem.Calls PyProof.Rows
set_option maxRecDepth 100000 in
set_option maxHeartbeats 0 in
theorem PySem.Challenge.cw_nearfields_k02_middles_holds : PySem.Challenge.rw_nearfields_k02_middles.Holds := by
  w_on; o_law
  refine HandSHeadRun.head_any (r := OpenLaw.row PySem.Challenge.rw_nearfields_k02_middles) (q := view (OpenLaw.row PySem.Challenge.rw_nearfields_k02_middles).prog [21]) (H := G_k02.hk) (ob := G_k02.ob) (M := 9000) (loose := G_k02.lo) (d := HandSHeadRun.topDef (OpenLaw.row PySem.Challenge.rw_nearfields_k02_middles).prog 21) (kwd := []) G_k02.ob_eq
    (by kernel_rfl) (fun s => by kernel_rfl) G_k02.run (by kernel_rfl) (by kernel_rfl) (by kernel_rfl) (by rfl) (by first | assumption | decide +kernel) (by decide +kernel) ⟨rfl, rfl, rfl, rfl, rfl, by decide +kernel⟩ ?hw ?hc
  case hw => w_witness2
  case hc =>
    refine L2.walk_ofE (l := PySem.Challenge.rw_nearfields_k02_middles) (n := 63) (k := 5) (x := "_law_script") (CX := L2.CX0) rfl (by decide) (by kernel_rfl) ⟨rfl, by decide, by decide⟩ ?F (fun _ _ _ _ z => z)
    intro w mg fa h Y G hmg0
    obtain ⟨K, KX, c⟩ := Y
    have hmg : mg ("law" : PySem.Str) = some (.ref fa) := by
      have e : (HandSHeadRun.topDef (OpenLaw.row PySem.Challenge.rw_nearfields_k02_middles).prog 21).name = ("law" : PySem.Str) := by kernel_rfl
      rw [← e]
      exact hmg0
    obtain ⟨fd, hb, hF⟩ := G_k02.facts (P := (PySem.Challenge.rw_nearfields_k02_middles).prog) (w := w) KX G hmg c
    exact ⟨K, fd, _, KX, hb, fun H a ns hl _ hS => T.law_sp G_k02.law_true hl hS, hF⟩
#print axioms PySem.Challenge.cw_nearfields_k02_middles_holds
