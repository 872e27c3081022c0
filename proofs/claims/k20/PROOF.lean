import PyProof.Rows.All
import Wide.All
import OpenK.AllK
import Wide.FinOn
import HandS.ForMost
import HandS.ForExc
import HandS.TryMany
import HandS.IsInst
import HandS.Wide
import HandS.Gcd
import HandS.Deep
import HandS.Lambda
import HandS.Flow
import HandS.TupAny
import HandS.TupMul
import HandS.Style
import HandS.Walk
import HandS.Zip
import HandS.WordsExc
import KE.KExcSuper
import KE.KSuper
import KE.KDflt
import HandS.EndTab
import HandS.HeadWalk
import HandS.EndBits
import PySem.Challenge.RW_pairwhole_k20_whole_numbers_in_five_ways
section
set_option Elab.async false
set_option linter.all false
set_option maxRecDepth 100000
set_option maxHeartbeats 4000000
set_option autoImplicit false
/-! P0: plain data (PyData) over the hand layer: slots that hold data, readings without a heap. -/
namespace PL
open PySem PySem.Spec PyProof.Rows L2

abbrev D := PyData
/-- the state of draws: the dict m, its list of cells, its list of great ones -/
structure Mm where
  am : Addr
  ac : Addr
  ag : Addr
/-- what may change though it is shared: the state of draws, tables of code objects -/
structure Msh where
  M : Option Mm
  T : List (Addr × Str)
structure Cc where
  K : PySem.W.Frag
  mg : Str → Option Value
  S : Msh
abbrev cc (X : Cx) (S : Msh) : Cc := ⟨X.K, X.mg, S⟩
def Msh.mut (S : Msh) (a : Addr) : Prop := (∃ m, S.M = some m ∧ (a = m.am ∨ a = m.ac ∨ a = m.ag)) ∨ ∃ p ∈ S.T, a = p.1

/-! a value stands for plain data, over the frozen heap F -/
mutual
inductive Rp (c : Cc) (F : Hp) : V → D → Prop
  | non : Rp c F .non .none
  | bl (b : Bool) : Rp c F (.bl b) (.bool b)
  | int (i : Int) : Rp c F (.int i) (.int i)
  | str (x : Str) : Rp c F (.str x) (.str x)
  | lst {a : Addr} {xs : List V} {ds : List D} : F a = some (.lst xs) → RpAll c F xs ds → Rp c F (.ref a) (.list ds)
  | tup {a : Addr} {xs : List V} {ds : List D} : SqT c.K F a xs → RpAll c F xs ds → Rp c F (.ref a) (.tuple ds)
  | st {m : Mm} : c.S.M = some m → Rp c F (.ref m.am) (.dict [(.none, .none)])
  | fn {x : Str} {f : Addr} : c.mg x = some (.ref f) → Rp c F (.ref f) (.dict [(.none, .str x)])
  | rf (a : Addr) : Rp c F (.ref a) (.dict [(.int (Int.ofNat a), .none)])
  | ex {a dx : Addr} {f : Str} {v : V} {x : D} : F dx = some (.xd [(f, v)]) → Rp c F v x → Rp c F (.ref a) (.dict [(.int (Int.ofNat a), .int (Int.ofNat dx)), (.str f, x)])
inductive RpAll (c : Cc) (F : Hp) : List V → List D → Prop
  | nil : RpAll c F [] []
  | cons {v : V} {vs : List V} {d : D} {ds : List D} : Rp c F v d → RpAll c F vs ds → RpAll c F (v :: vs) (d :: ds)
end
def stTok : D := .dict [(.none, .none)]
def fnTok (x : Str) : D := .dict [(.none, .str x)]
/-- an object of which nothing is asked -/
def rfTok (a : Addr) : D := .dict [(.int (Int.ofNat a), .none)]
/-- an exception at a with its own dict at dx, in which f is x -/
def exTok (a dx : Addr) (f : Str) (x : D) : D := .dict [(.int (Int.ofNat a), .int (Int.ofNat dx)), (.str f, x)]

def Sub (F H : Hp) : Prop := ∀ a o, F a = some o → H a = some o
theorem Sub.refl (F : Hp) : Sub F F := fun _ _ h => h
theorem Sub.trans {F G H : Hp} (a : Sub F G) (b : Sub G H) : Sub F H := fun x o h => b x o (a x o h)
theorem Sub.no {F H : Hp} (s : Sub F H) {a : Addr} (h : H a = none) : F a = none := by
  cases q : F a with
  | none => rfl
  | some o => rw [s a o q] at h; cases h
theorem Sub.new {H : Hp} {p : Addr} {o : HO} (h : H p = none) : Sub H (upd H p o) := fun a u e => by
  rw [upd_ne (ne_of_none e h)]; exact e
theorem Sub.rd {F H : Hp} (s : Sub F H) {a : Addr} {u : HO} (h : Rd F a u) : Rd H a u := by
  rcases h with h | ⟨o, h⟩
  · exact .inl (s a _ h)
  · exact .inr ⟨o, s a _ h⟩
theorem Sub.l {K : PySem.W.Frag} {F H : Hp} (s : Sub F H) {a : Addr} {xs : List V} (h : SqL K F a xs) : SqL K H a xs := by
  rcases h with h | h
  · exact .inl (s.rd h)
  · exact .inr h
theorem Sub.t {K : PySem.W.Frag} {F H : Hp} (s : Sub F H) {a : Addr} {xs : List V} (h : SqT K F a xs) : SqT K H a xs := by
  rcases h with h | h
  · exact .inl (s.rd h)
  · exact .inr h
mutual
theorem Rp.mono {c : Cc} {F H : Hp} (s : Sub F H) {v : V} : ∀ {d : D}, Rp c F v d → Rp c H v d
  | _, .non => .non
  | _, .bl b => .bl b
  | _, .int i => .int i
  | _, .str x => .str x
  | _, .lst h r => .lst (s _ _ h) (RpAll.mono s r)
  | _, .tup h r => .tup (s.t h) (RpAll.mono s r)
  | _, .st h => .st h
  | _, .fn h => .fn h
  | _, .rf a => .rf a
  | _, .ex h r => .ex (s _ _ h) (Rp.mono s r)
theorem RpAll.mono {c : Cc} {F H : Hp} (s : Sub F H) {vs : List V} : ∀ {ds : List D}, RpAll c F vs ds → RpAll c H vs ds
  | _, .nil => .nil
  | _, .cons h r => .cons (Rp.mono s h) (RpAll.mono s r)
end
theorem RpAll.length {c : Cc} {F : Hp} : ∀ {vs : List V} {ds : List D}, RpAll c F vs ds → vs.length = ds.length
  | _, _, .nil => rfl
  | _, _, .cons _ r => by rw [List.length_cons, List.length_cons, r.length]
theorem RpAll.get {c : Cc} {F : Hp} : ∀ {vs : List V} {ds : List D} {i : Nat} {d : D}, RpAll c F vs ds → ds[i]? = some d → ∃ v, vs[i]? = some v ∧ Rp c F v d
  | _, _, _, _, .nil, e => by simp at e
  | _, _, 0, _, .cons h _, e => by simp at e; subst e; exact ⟨_, rfl, h⟩
  | _, _, i + 1, _, .cons _ r, e => by
    obtain ⟨v, h1, h2⟩ := RpAll.get (i := i) r (by simpa using e)
    exact ⟨v, by simpa using h1, h2⟩
theorem RpAll.append {c : Cc} {F : Hp} : ∀ {vs ws : List V} {ds es : List D}, RpAll c F vs ds → RpAll c F ws es → RpAll c F (vs ++ ws) (ds ++ es)
  | _, _, _, _, .nil, s => s
  | _, _, _, _, .cons h r, s => .cons h (r.append s)
theorem RpAll.set {c : Cc} {F : Hp} {v : V} {d : D} (h : Rp c F v d) : ∀ {vs : List V} {ds : List D} (i : Nat), RpAll c F vs ds → RpAll c F (vs.set i v) (ds.set i d)
  | _, _, _, .nil => .nil
  | _, _, 0, .cons _ r => .cons h r
  | _, _, i + 1, .cons q r => .cons q (RpAll.set h i r)
theorem RpAll.take {c : Cc} {F : Hp} : ∀ {vs : List V} {ds : List D} (n : Nat), RpAll c F vs ds → RpAll c F (vs.take n) (ds.take n)
  | _, _, 0, _ => .nil
  | _, _, _ + 1, .nil => .nil
  | _, _, n + 1, .cons h r => .cons h (RpAll.take n r)
theorem RpAll.drop {c : Cc} {F : Hp} : ∀ {vs : List V} {ds : List D} (n : Nat), RpAll c F vs ds → RpAll c F (vs.drop n) (ds.drop n)
  | _, _, 0, r => r
  | _, _, _ + 1, .nil => .nil
  | _, _, n + 1, .cons _ r => RpAll.drop n r
theorem RpAll.ints {c : Cc} {F : Hp} : ∀ (ns : List Int), RpAll c F (ns.map V.int) (ns.map PyData.int)
  | [] => .nil
  | n :: ns => .cons (.int n) (RpAll.ints ns)
theorem RpAll.replicate {c : Cc} {F : Hp} {v : V} {d : D} (h : Rp c F v d) : ∀ (n : Nat), RpAll c F (List.replicate n v) (List.replicate n d)
  | 0 => .nil
  | n + 1 => by rw [List.replicate_succ, List.replicate_succ]; exact .cons h (RpAll.replicate h n)
/-! data without dicts is read as the layer reads it -/
mutual
theorem Rp.dp {c : Cc} {F : Hp} {v : V} : ∀ {d : D}, Rp c F v d → d.canLay0 = true → Dp c.K F v d
  | _, .non, _ => .non
  | _, .bl b, _ => .bl b
  | _, .int i, _ => .int i
  | _, .str x, _ => .str x
  | _, .lst h r, e => .lst (SqL.of h) (RpAll.dp r (by simpa [PyData.canLay0] using e))
  | _, .tup h r, e => .tup h (RpAll.dp r (by simpa [PyData.canLay0] using e))
  | _, .st _, e => by simp [PyData.canLay0] at e
  | _, .fn _, e => by simp [PyData.canLay0] at e
  | _, .rf _, e => by simp [PyData.canLay0] at e
  | _, .ex _ _, e => by simp [PyData.canLay0] at e
theorem RpAll.dp {c : Cc} {F : Hp} {vs : List V} : ∀ {ds : List D}, RpAll c F vs ds → PyData.canLayAll0 ds = true → DpAll c.K F vs ds
  | _, .nil, _ => .nil
  | d :: ds, .cons h r, e => by
    have e' : PyData.canLay0 d = true ∧ PyData.canLayAll0 ds = true := by simpa [PyData.canLayAll0] using e
    exact .cons (Rp.dp h e'.1) (RpAll.dp r e'.2)
end

/-! ### the shared state -/
/-- w: no more draws than w were made -/
def MSt (S : Msh) (w : Nat) (H : Hp) : Prop :=
  (∀ m, S.M = some m → m.ac ≠ m.ag ∧ ∃ (cells great : List Int) (spot : Nat), H m.am = some (.dK [(.inr "cells", .ref m.ac), (.inr "great", .ref m.ag), (.inr "spot", .int spot)]) ∧ H m.ac = some (.lst (cells.map V.int)) ∧ cells.length = 64 ∧ (∀ c ∈ cells, c.natAbs < 2 ^ 31) ∧
    H m.ag = some (.lst (great.map V.int)) ∧ great.length < 64 ∧ (spot : Nat) ≤ w) ∧ LamX.Tabs S.T H
theorem MSt.le {S : Msh} {w w' : Nat} {H : Hp} (h : MSt S w H) (l : w ≤ w') : MSt S w' H := by
  refine ⟨fun m e => ?_, h.2⟩
  obtain ⟨n, cells, great, spot, h1, h2, h3, h4, h5, h6, h7⟩ := h.1 m e
  exact ⟨n, cells, great, spot, h1, h2, h3, h4, h5, h6, Nat.le_trans h7 l⟩
theorem MSt.there {S : Msh} {w : Nat} {H : Hp} (h : MSt S w H) {a : Addr} (m : S.mut a) : H a ≠ none := by
  rcases m with ⟨m, e, q⟩ | ⟨p, hp, e⟩
  · obtain ⟨_, cells, great, spot, h1, h2, h3, h4, h5, _⟩ := h.1 m e
    rcases q with q | q | q <;> subst q <;> intro z
    · rw [h1] at z; cases z
    · rw [h2] at z; cases z
    · rw [h5] at z; cases z
  · obtain ⟨ps, h1, _⟩ := h.2 p hp
    subst e
    intro z
    rw [h1] at z; cases z
/-- what is tracked stays -/
theorem MSt.sub {S : Msh} {w : Nat} {H H' : Hp} (h : MSt S w H) (s : Sub H H') : MSt S w H' := by
  refine ⟨fun m e => ?_, h.2.ext s⟩
  obtain ⟨n, cells, great, spot, h1, h2, h3, h4, h5, h6, h7⟩ := h.1 m e
  exact ⟨n, cells, great, spot, s _ _ h1, s _ _ h2, h3, h4, s _ _ h5, h6, h7⟩
/-- .. but for an object that is not of the shared state (and no code object) -/
theorem MSt.but {S : Msh} {w : Nat} {H H' : Hp} {p : Addr} {xs : List V} (h : MSt S w H) (hp : H p = some (.lst xs)) (np : ¬ S.mut p) (s : ∀ a o, a ≠ p → H a = some o → H' a = some o) : MSt S w H' := by
  refine ⟨fun m e => ?_, fun q hq => ?_⟩
  · obtain ⟨n, cells, great, spot, h1, h2, h3, h4, h5, h6, h7⟩ := h.1 m e
    have nm : ∀ a, (a = m.am ∨ a = m.ac ∨ a = m.ag) → a ≠ p := fun a ha z => np (.inl ⟨m, e, by rw [← z]; exact ha⟩)
    exact ⟨n, cells, great, spot, s _ _ (nm _ (.inl rfl)) h1, s _ _ (nm _ (.inr (.inl rfl))) h2, h3, h4, s _ _ (nm _ (.inr (.inr rfl))) h5, h6, h7⟩
  · obtain ⟨ps, h1, h2, h3⟩ := h.2 q hq
    have nq : q.1 ≠ p := fun z => np (.inr ⟨q, hq, z.symm⟩)
    refine ⟨ps, s _ _ nq h1, h2, fun pos cv hc => ?_⟩
    obtain ⟨c, e1, e2⟩ := h3 pos cv hc
    refine ⟨c, e1, s _ _ (fun z => ?_) e2⟩
    rw [z, hp] at e2
    unfold LamX.CodeO at e2
    cases e2

/-- from one state to a later one -/
structure Step (S : Msh) (F H F' H' : Hp) : Prop where
  f : Sub F F'
  h : Sub F' H'
  k : ∀ a o, H a = some o → ¬ S.mut a → H' a = some o
  t : ∀ a, H a ≠ none → H' a ≠ none
  n : ∀ a, F' a ≠ none → F a ≠ none ∨ H a = none
theorem Step.refl {S : Msh} {F H : Hp} (s : Sub F H) : Step S F H F H := ⟨Sub.refl F, s, fun _ _ e _ => e, fun _ e => e, fun _ e => .inl e⟩
theorem Step.trans {S : Msh} {F H F1 H1 F2 H2 : Hp} (a : Step S F H F1 H1) (b : Step S F1 H1 F2 H2) : Step S F H F2 H2 where
  f := a.f.trans b.f
  h := b.h
  k := fun x o e n => b.k x o (a.k x o e n) n
  t := fun x e => b.t x (a.t x e)
  n := fun x e => by
    rcases b.n x e with q | q
    · exact a.n x q
    · exact .inr (by
        cases z : H x with
        | none => rfl
        | some o => exact absurd q (a.t x (by rw [z]; simp)))
/-- a new object, frozen -/
theorem Step.new {S : Msh} {F H : Hp} (s : Sub F H) {p : Addr} (o : HO) (h : H p = none) : Step S F H (upd F p o) (upd H p o) where
  f := Sub.new (s.no h)
  h := fun a u e => by
    by_cases z : a = p
    · subst z; rw [upd_same] at e ⊢; exact e
    · rw [upd_ne z] at e ⊢; exact s a u e
  k := fun a u e _ => Sub.new h a u e
  t := fun a e => by
    cases z : H a with
    | none => exact absurd z e
    | some u => rw [Sub.new h a u z]; simp
  n := fun a e => by
    by_cases z : a = p
    · subst z; exact .inr h
    · rw [upd_ne z] at e; exact .inl e
/-- a new object, not frozen -/
theorem Step.newO {S : Msh} {F H : Hp} (s : Sub F H) {p : Addr} (o : HO) (h : H p = none) : Step S F H F (upd H p o) where
  f := Sub.refl F
  h := s.trans (Sub.new h)
  k := fun a u e _ => Sub.new h a u e
  t := fun a e => by
    cases z : H a with
    | none => exact absurd z e
    | some u => rw [Sub.new h a u z]; simp
  n := fun a e => .inl e
theorem Step.fm {S : Msh} {F H F' H' : Hp} {w : Nat} (a : Step S F H F' H') (m : MSt S w H) (fm : ∀ a, S.mut a → F a = none) : ∀ a, S.mut a → F' a = none := fun x hx => by
  cases q : F' x with
  | none => rfl
  | some o =>
    rcases a.n x (by rw [q]; simp) with z | z
    · exact absurd (fm x hx) z
    · exact absurd z (m.there hx)

/-! ### slots that hold data -/
inductive Sl where
  | no
  | d (x : D)
  | own (xs : List D)
structure Ev where
  s : List Sl
  w : Nat
def SRel (c : Cc) (F H : Hp) : Sl → Option (Option V) → Prop
  | .no, _ => True
  | .d x, o => ∃ v, o = some (some v) ∧ Rp c F v x
  | .own xs, o => ∃ p vs, o = some (some (.ref p)) ∧ F p = none ∧ ¬ c.S.mut p ∧ H p = some (.lst vs) ∧ RpAll c F vs xs
/-- where a def's body stands: the frozen heap and the heap at its entry -/
structure Am where
  c : Cc
  F0 : Hp
  H0 : Hp
structure Bd where
  S : Msh
  F0 : Hp
  H0 : Hp
abbrev am (X : Cx) (B : Bd) : Am := ⟨cc X B.S, B.F0, B.H0⟩
structure Sim (A : Am) (e : Ev) (F : Hp) (σ : L2.St) (H : Hp) : Prop where
  fh : Sub F H
  ms : MSt A.c.S e.w H
  fm : ∀ a, A.c.S.mut a → F a = none
  len : e.s.length = σ.length
  rel : ∀ (i : Nat) (s : Sl), e.s[i]? = some s → SRel A.c F H s σ[i]?
  sep : ∀ (i j : Nat) (xs ys : List D), e.s[i]? = some (.own xs) → e.s[j]? = some (.own ys) → σ[i]? = σ[j]? → i = j
  en : Step A.c.S A.F0 A.H0 F H
  own : ∀ (i : Nat) (xs : List D) (p : Addr), e.s[i]? = some (.own xs) → σ[i]? = some (some (.ref p)) → A.H0 p = none
theorem SRel.step {c : Cc} {F H F' H' : Hp} (st : Step c.S F H F' H') : ∀ {s : Sl} {o : Option (Option V)}, SRel c F H s o → SRel c F' H' s o
  | .no, _, _ => trivial
  | .d _, _, ⟨v, e, r⟩ => ⟨v, e, r.mono st.f⟩
  | .own _, _, ⟨p, vs, e, fp, np, hp, r⟩ =>
    have z : F' p = none := by
      cases q : F' p with
      | none => rfl
      | some o =>
        rcases st.n p (by rw [q]; simp) with z | z
        · exact absurd fp z
        · rw [hp] at z; cases z
    ⟨p, vs, e, z, np, st.k _ _ hp np, r.mono st.f⟩
theorem Sim.step {A : Am} {e : Ev} {F H F' H' : Hp} {σ : L2.St} {w : Nat} (s : Sim A e F σ H) (st : Step A.c.S F H F' H') (m : MSt A.c.S w H') : Sim A { e with w := w } F' σ H' :=
  ⟨st.h, m, st.fm s.ms s.fm, s.len, fun i x h => (s.rel i x h).step st, s.sep, s.en.trans st, s.own⟩

/-- readings over data -/
abbrev TD := Ev → (Nat → D → Prop) → Prop
abbrev TTD := Ev → (Nat → Bool → Prop) → Prop
abbrev TAD := Ev → (Nat → List D → Prop) → Prop
def lift (A : Am) (t : TD) : TE := fun σ H Q => ∃ e F, Sim A e F σ H ∧ t e fun w d => ∀ v F' H', Step A.c.S F H F' H' → MSt A.c.S w H' → Rp A.c F' v d → Q v H'
def liftT (A : Am) (t : TTD) : TT := fun σ H Q => ∃ e F, Sim A e F σ H ∧ t e fun w b => ∀ F' H', Step A.c.S F H F' H' → MSt A.c.S w H' → Q b H'
def liftA (A : Am) (t : TAD) : TA := fun σ H Q => ∃ e F, Sim A e F σ H ∧ t e fun w ds => ∀ vs F' H', Step A.c.S F H F' H' → MSt A.c.S w H' → RpAll A.c F' vs ds → Q vs H'
def MonD (t : TD) : Prop := ∀ e Q Q', (∀ w d, Q w d → Q' w d) → t e Q → t e Q'
def MonT (t : TTD) : Prop := ∀ e Q Q', (∀ w b, Q w b → Q' w b) → t e Q → t e Q'
def MonA (t : TAD) : Prop := ∀ e Q Q', (∀ w ds, Q w ds → Q' w ds) → t e Q → t e Q'
structure PX (X : Cx) (B : Bd) (e : Expr) (t : TD) : Prop where
  mono : MonD t
  pe : PE X e (lift (am X B) t)
structure PXT (X : Cx) (B : Bd) (e : Expr) (t : TTD) : Prop where
  mono : MonT t
  pt : PT X e (liftT (am X B) t)
structure PXA (X : Cx) (B : Bd) (es : List Expr) (t : TAD) : Prop where
  mono : MonA t
  pa : PA X es (liftA (am X B) t)
theorem pe_imp {X : Cx} {e : Expr} {t t' : TE} (h : PE X e t) (i : ∀ σ H Q, t' σ H Q → t σ H Q) : PE X e t' := ⟨fun pins s σ H Q I q => h.run pins s σ H Q I (i σ H Q q)⟩
theorem pt_imp {X : Cx} {e : Expr} {t t' : TT} (h : PT X e t) (i : ∀ σ H Q, t' σ H Q → t σ H Q) : PT X e t' := ⟨fun pins s σ H Q I q => h.run pins s σ H Q I (i σ H Q q)⟩
theorem pa_imp {X : Cx} {e : List Expr} {t t' : TA} (h : PA X e t) (i : ∀ σ H Q, t' σ H Q → t σ H Q) : PA X e t' := ⟨fun pos pins s σ H Q I q => h.run pos pins s σ H Q I (i σ H Q q)⟩

section
variable {X : Cx} {B : Bd} {a b c : Expr} {ta tb tc : TD} {pos : Pos}
/-! ### names, constants -/
def dVar (i : Nat) : TD := fun e Q => match e.s[i]? with
  | some (.d x) => Q e.w x
  | _ => False
def dC (d : D) : TD := fun e Q => Q e.w d
theorem dVar_mono (i : Nat) : MonD (dVar i) := fun e Q Q' h q => by
  unfold dVar at q ⊢
  split at q
  · exact h _ _ q
  · exact q
theorem dC_mono (d : D) : MonD (dC d) := fun e Q Q' h q => h _ _ q
theorem px_var (i : Nat) {x : Str} (h : PE X (.Name x pos) (tVar i)) : PX X B (.Name x pos) (dVar i) := by
  refine ⟨dVar_mono i, pe_imp h fun σ H Q q => ?_⟩
  obtain ⟨e, F, s, q⟩ := q
  unfold dVar at q
  split at q
  · rename_i x hx
    obtain ⟨v, h1, h2⟩ := s.rel i _ hx
    exact ⟨v, h1, q v F H (Step.refl s.fh) s.ms h2⟩
  · exact q.elim
theorem px_c {e : Expr} {v : V} {d : D} (h : PE X e (tC v)) (r : ∀ c F, Rp c F v d) : PX X B e (dC d) := by
  refine ⟨dC_mono d, pe_imp h fun σ H Q q => ?_⟩
  obtain ⟨e, F, s, q⟩ := q
  exact q v F H (Step.refl s.fh) s.ms (r _ _)
end
end PL
end
section
set_option Elab.async false
set_option linter.all false
set_option maxRecDepth 100000
set_option maxHeartbeats 4000000
set_option autoImplicit false
/-! P1: operators over data, tests, displays. -/
namespace PL
open PySem PySem.Spec PyProof.Rows L2

/-! ### operators -/
abbrev RD := D → D → (D → Prop) → Prop
def MonR (r : RD) : Prop := ∀ x y Q Q', (∀ d, Q d → Q' d) → r x y Q → r x y Q'
def liftR (c : Cc) (r : RD) : R2 := fun x y H Q => ∃ F d1 d2, Sub F H ∧ Rp c F x d1 ∧ Rp c F y d2 ∧ r d1 d2 fun d => ∀ v F' H', Step c.S F H F' H' → Sub H H' → Rp c F' v d → Q v H'
structure OpD (X : Cx) (S : Msh) (f : Value → Value → Sem Value) (r : RD) : Prop where
  mono : MonR r
  op : OpR X f (liftR (cc X S) r)
theorem OpR.imp {X : Cx} {f : Value → Value → Sem Value} {r r' : R2} (h : OpR X f r) (i : ∀ x y H Q, r' x y H Q → r x y H Q) : OpR X f r' :=
  fun pins s σ H x y v u Q I rx ry q => h pins s σ H x y v u Q I rx ry (i x y H Q q)
/-- by cases over what stands there -/
theorem OpR.case {X : Cx} {f : Value → Value → Sem Value} {r' : R2} (i : ∀ x y H Q, r' x y H Q → ∃ r : R2, OpR X f r ∧ r x y H Q) : OpR X f r' :=
  fun pins s σ H x y v u Q I rx ry q => by
    obtain ⟨r, h, q'⟩ := i x y H Q q
    exact h pins s σ H x y v u Q I rx ry q'
def dOp (r : RD) (ta tb : TD) : TD := fun e Q => ta e fun w x => tb { e with w := w } fun w' y => r x y (Q w')
theorem dOp_mono {r : RD} {ta tb : TD} (hr : MonR r) (ha : MonD ta) (hb : MonD tb) : MonD (dOp r ta tb) := fun e Q Q' h q =>
  ha _ _ _ (fun w x q => hb _ _ _ (fun w' y q => hr _ _ _ _ (fun d q => h _ _ q) q) q) q
section
variable {X : Cx} {B : Bd} {a b c : Expr} {ta tb tc : TD} {pos : Pos}
/-- two in a row -/
theorem two {A : Am} {ta tb : TD} (ma : MonD ta) (mb : MonD tb) {σ : L2.St} {H : Hp} {r : RD} (mr : MonR r) {Q : VK}
    (h : lift A (dOp r ta tb) σ H Q) : lift A ta σ H fun x H1 => lift A tb σ H1 fun y H2 => liftR A.c r x y H2 Q := by
  obtain ⟨e, F, s, q⟩ := h
  refine ⟨e, F, s, ma _ _ _ (fun w x q v F1 H1 st1 m1 r1 => ?_) q⟩
  refine ⟨{ e with w := w }, F1, s.step st1 m1, mb _ _ _ (fun w' y q u F2 H2 st2 m2 r2 => ?_) q⟩
  refine ⟨F2, x, y, st2.h, r1.mono st2.f, r2, mr _ _ _ _ (fun d q v' F3 H3 st3 s3 r3 => ?_) q⟩
  exact q v' F3 H3 ((st1.trans st2).trans st3) (m2.sub s3) r3
theorem px_op {op : Operator} {r : RD} (ho : OpD X B.S (binaryOp op) r) (ha : PX X B a ta) (hb : PX X B b tb) : PX X B (.BinOp a op b pos) (dOp r ta tb) :=
  ⟨dOp_mono ho.mono ha.mono hb.mono, pe_imp (pe_op ho.op ha.pe hb.pe) fun σ H Q q => two ha.mono hb.mono ho.mono q⟩
theorem px_cmp {op : CmpOp} {r : RD} (ho : OpD X B.S (compareOp op) r) (ha : PX X B a ta) (hb : PX X B b tb) (hm : behindInMarks op b = false) : PX X B (.Compare a [op] [b] pos) (dOp r ta tb) :=
  ⟨dOp_mono ho.mono ha.mono hb.mono, pe_imp (pe_cmpR ho.op ha.pe hb.pe hm) fun σ H Q q => two ha.mono hb.mono ho.mono q⟩
/-- the answer is a truth value -/
def dTest (t : TD) : TTD := fun e Q => t e fun w x => ∃ k, x = .bool k ∧ Q w k
theorem dTest_mono {t : TD} (h : MonD t) : MonT (dTest t) := fun e Q Q' i q => h _ _ _ (fun w x ⟨k, e, q⟩ => ⟨k, e, i _ _ q⟩) q
theorem pxt_cmp {op : CmpOp} {r : RD} (ho : OpD X B.S (compareOp op) r) (ha : PX X B a ta) (hb : PX X B b tb) (hm : behindInMarks op b = false) : PXT X B (.Compare a [op] [b] pos) (dTest (dOp r ta tb)) := by
  refine ⟨dTest_mono (dOp_mono ho.mono ha.mono hb.mono), pt_imp (pt_cmpR ho.op ha.pe hb.pe hm) fun σ H Q q => ?_⟩
  obtain ⟨e, F, s, q⟩ := q
  refine two ha.mono hb.mono ho.mono ⟨e, F, s, dOp_mono ho.mono ha.mono hb.mono _ _ _ (fun w x ⟨k, ex, q⟩ v F' H' st m r => ?_) q⟩
  subst ex
  cases r
  exact ⟨k, rfl, q F' H' st m⟩
theorem pxt_val {e : Expr} {t : TD} (h : PX X B e t) (he : ∀ whole, isTrue e X.env whole = (do let v ← whole; standAt e.pos; holding [v] (truthy v)) := by intro _; rfl) : PXT X B e (dTest t) := by
  refine ⟨dTest_mono h.mono, pt_imp (pt_val h.pe he) fun σ H Q q => ?_⟩
  obtain ⟨e, F, s, q⟩ := q
  refine ⟨e, F, s, h.mono _ _ _ (fun w x ⟨k, ex, q⟩ v F' H' st m r => ?_) q⟩
  subst ex
  cases r
  exact ⟨k, rfl, q F' H' st m⟩
/-- a chain of two comparisons -/
def dChain (r r' : RD) (ta tb tc : TD) : TD := fun e Q => ta e fun w x => tb { e with w := w } fun w1 y => r x y fun z => ∃ k, z = .bool k ∧
  if k = true then tc { e with w := w1 } fun w2 u => r' y u (Q w2) else Q w1 (.bool false)
theorem dChain_mono {r r' : RD} {ta tb tc : TD} (hr : MonR r) (hr' : MonR r') (ha : MonD ta) (hb : MonD tb) (hc : MonD tc) : MonD (dChain r r' ta tb tc) := fun e Q Q' h q =>
  ha _ _ _ (fun w x q => hb _ _ _ (fun w1 y q => hr _ _ _ _ (fun z ⟨k, ez, q⟩ => ⟨k, ez, by
    cases k with
    | true => exact hc _ _ _ (fun w2 u q => hr' _ _ _ _ (fun d q => h _ _ q) q) q
    | false => exact h _ _ q⟩) q) q) q
theorem three {A : Am} {ta tb tc : TD} (ma : MonD ta) (mb : MonD tb) (mc : MonD tc) {σ : L2.St} {H : Hp} {r r' : RD} (mr : MonR r) (mr' : MonR r') {Q : VK}
    (h : lift A (dChain r r' ta tb tc) σ H Q) : lift A ta σ H fun x H1 => lift A tb σ H1 fun y H2 => liftR A.c r x y H2 fun z H3 => ∃ k, z = .bl k ∧ (if k = true then lift A tc σ H3 fun w' H4 => liftR A.c r' y w' H4 Q else Q (.bl false) H3) := by
  obtain ⟨e, F, s, q⟩ := h
  refine ⟨e, F, s, ma _ _ _ (fun w x q v F1 H1 st1 m1 r1 => ?_) q⟩
  refine ⟨{ e with w := w }, F1, s.step st1 m1, mb _ _ _ (fun w' y q u F2 H2 st2 m2 r2 => ?_) q⟩
  refine ⟨F2, x, y, st2.h, r1.mono st2.f, r2, mr _ _ _ _ (fun d q v' F3 H3 st3 s3 r3 => ?_) q⟩
  obtain ⟨k, ed, q⟩ := q
  subst ed
  cases r3
  refine ⟨k, rfl, ?_⟩
  have m3 := m2.sub s3
  cases k with
  | true =>
    rw [if_pos rfl] at q ⊢
    refine ⟨{ e with w := w' }, F3, (s.step ((st1.trans st2).trans st3) m3), mc _ _ _ (fun w2 z q v4 F4 H4 st4 m4 r4 => ?_) q⟩
    refine ⟨F4, y, z, st4.h, r2.mono (st3.f.trans st4.f), r4, mr' _ _ _ _ (fun d q v' F5 H5 st5 s5 r5 => ?_) q⟩
    exact q v' F5 H5 ((((st1.trans st2).trans st3).trans st4).trans st5) (m4.sub s5) r5
  | false =>
    rw [if_neg Bool.false_ne_true] at q ⊢
    exact q _ F3 H3 ((st1.trans st2).trans st3) m3 (.bl false)
theorem px_chain {op op' : CmpOp} {r r' : RD} (ho : OpD X B.S (compareOp op) r) (ho' : OpD X B.S (compareOp op') r') (ha : PX X B a ta) (hb : PX X B b tb) (hc : PX X B c tc)
    (hm : lastMarks [op, op'] [b, c] = false := by with_unfolding_all rfl) : PX X B (.Compare a [op, op'] [b, c] pos) (dChain r r' ta tb tc) :=
  ⟨dChain_mono ho.mono ho'.mono ha.mono hb.mono hc.mono, pe_imp (pe_chain ho.op ho'.op ha.pe hb.pe hc.pe hm) fun σ H Q q => three ha.mono hb.mono hc.mono ho.mono ho'.mono q⟩
theorem pxt_chain {op op' : CmpOp} {r r' : RD} (ho : OpD X B.S (compareOp op) r) (ho' : OpD X B.S (compareOp op') r') (ha : PX X B a ta) (hb : PX X B b tb) (hc : PX X B c tc)
    (hm : lastMarks [op, op'] [b, c] = false := by with_unfolding_all rfl) : PXT X B (.Compare a [op, op'] [b, c] pos) (dTest (dChain r r' ta tb tc)) := by
  refine ⟨dTest_mono (dChain_mono ho.mono ho'.mono ha.mono hb.mono hc.mono), pt_imp (pt_chain ho.op ho'.op ha.pe hb.pe hc.pe hm) fun σ H Q q => ?_⟩
  obtain ⟨e, F, s, q⟩ := q
  refine three ha.mono hb.mono hc.mono ho.mono ho'.mono ⟨e, F, s, dChain_mono ho.mono ho'.mono ha.mono hb.mono hc.mono _ _ _ (fun w x ⟨k, ex, q⟩ v F' H' st m r => ?_) q⟩
  subst ex
  cases r
  exact ⟨k, rfl, q F' H' st m⟩

/-! ### and, or, not, if -/
variable {tA tB : TTD} {rest : List Expr}
structure PXW (X : Cx) (B : Bd) (e : Expr) (t : TTD) : Prop where
  mono : MonT t
  pw : PW X e (liftT (am X B) t)
theorem pw_imp {e : Expr} {t t' : TT} (h : PW X e t) (i : ∀ σ H Q, t' σ H Q → t σ H Q) : PW X e t' := ⟨fun wh pins s σ H Q I q => h.run wh pins s σ H Q I (i σ H Q q)⟩
theorem PXW.pt {e : Expr} {t : TTD} (h : PXW X B e t) : PXT X B e t := ⟨h.mono, h.pw.pt⟩
def dAnd (t u : TTD) : TTD := fun e Q => t e fun w k => if k = true then u { e with w := w } Q else Q w false
def dOr (t u : TTD) : TTD := fun e Q => t e fun w k => if k = true then Q w true else u { e with w := w } Q
def dNot (t : TTD) : TTD := fun e Q => t e fun w k => Q w (!k)
theorem dAnd_mono (h : MonT tA) (h' : MonT tB) : MonT (dAnd tA tB) := fun e Q Q' i q => h _ _ _ (fun w k q => by
  cases k with
  | true => exact h' _ _ _ i q
  | false => exact i _ _ q) q
theorem dOr_mono (h : MonT tA) (h' : MonT tB) : MonT (dOr tA tB) := fun e Q Q' i q => h _ _ _ (fun w k q => by
  cases k with
  | true => exact i _ _ q
  | false => exact h' _ _ _ i q) q
theorem dNot_mono (h : MonT tA) : MonT (dNot tA) := fun e Q Q' i q => h _ _ _ (fun w k q => i _ _ q) q
theorem pxw_and1 (ha : PXT X B a tA) : PXW X B (.BoolOp .And [a] pos) tA := ⟨ha.mono, pw_and1 ha.pt⟩
theorem pxw_or1 (ha : PXT X B a tA) : PXW X B (.BoolOp .Or [a] pos) tA := ⟨ha.mono, pw_or1 ha.pt⟩
theorem pxw_and (ha : PXT X B a tA) (hb : PXW X B (.BoolOp .And (b :: rest) pos) tB) : PXW X B (.BoolOp .And (a :: b :: rest) pos) (dAnd tA tB) := by
  refine ⟨dAnd_mono ha.mono hb.mono, pw_imp (pw_and ha.pt hb.pw) fun σ H Q q => ?_⟩
  obtain ⟨e, F, s, q⟩ := q
  refine ⟨e, F, s, ha.mono _ _ _ (fun w k q F1 H1 st1 m1 => ?_) q⟩
  cases k with
  | true =>
    rw [if_pos rfl] at q ⊢
    exact ⟨{ e with w := w }, F1, s.step st1 m1, hb.mono _ _ _ (fun w' k q F2 H2 st2 m2 => q F2 H2 (st1.trans st2) m2) q⟩
  | false =>
    rw [if_neg Bool.false_ne_true] at q ⊢
    exact q F1 H1 st1 m1
theorem pxw_or (ha : PXT X B a tA) (hb : PXW X B (.BoolOp .Or (b :: rest) pos) tB) : PXW X B (.BoolOp .Or (a :: b :: rest) pos) (dOr tA tB) := by
  refine ⟨dOr_mono ha.mono hb.mono, pw_imp (pw_or ha.pt hb.pw) fun σ H Q q => ?_⟩
  obtain ⟨e, F, s, q⟩ := q
  refine ⟨e, F, s, ha.mono _ _ _ (fun w k q F1 H1 st1 m1 => ?_) q⟩
  cases k with
  | true =>
    rw [if_pos rfl] at q ⊢
    exact q F1 H1 st1 m1
  | false =>
    rw [if_neg Bool.false_ne_true] at q ⊢
    exact ⟨{ e with w := w }, F1, s.step st1 m1, hb.mono _ _ _ (fun w' k q F2 H2 st2 m2 => q F2 H2 (st1.trans st2) m2) q⟩
theorem pxt_not (ha : PXT X B a tA) : PXT X B (.UnaryOp .Not a pos) (dNot tA) := by
  refine ⟨dNot_mono ha.mono, pt_imp (pt_not ha.pt) fun σ H Q q => ?_⟩
  obtain ⟨e, F, s, q⟩ := q
  exact ⟨e, F, s, ha.mono _ _ _ (fun w k q F1 H1 st1 m1 => q F1 H1 st1 m1) q⟩
/-- as values: all but the last are truth values -/
def dAndV (ta tb : TD) : TD := fun e Q => ta e fun w x => ∃ k, x = .bool k ∧ if k = true then tb { e with w := w } Q else Q w (.bool false)
def dOrV (ta tb : TD) : TD := fun e Q => ta e fun w x => ∃ k, x = .bool k ∧ if k = true then Q w (.bool true) else tb { e with w := w } Q
def dNotV (ta : TD) : TD := fun e Q => ta e fun w x => ∃ k, x = .bool k ∧ Q w (.bool !k)
theorem dAndV_mono (h : MonD ta) (h' : MonD tb) : MonD (dAndV ta tb) := fun e Q Q' i q => h _ _ _ (fun w x ⟨k, ex, q⟩ => ⟨k, ex, by
  cases k with
  | true => exact h' _ _ _ i q
  | false => exact i _ _ q⟩) q
theorem dOrV_mono (h : MonD ta) (h' : MonD tb) : MonD (dOrV ta tb) := fun e Q Q' i q => h _ _ _ (fun w x ⟨k, ex, q⟩ => ⟨k, ex, by
  cases k with
  | true => exact i _ _ q
  | false => exact h' _ _ _ i q⟩) q
theorem dNotV_mono (h : MonD ta) : MonD (dNotV ta) := fun e Q Q' i q => h _ _ _ (fun w x ⟨k, ex, q⟩ => ⟨k, ex, i _ _ q⟩) q
theorem px_one {op} (h : PX X B a ta) : PX X B (.BoolOp op [a] pos) ta := ⟨h.mono, pe_one h.pe⟩
theorem px_and (ha : PX X B a ta) (hb : PX X B (.BoolOp .And (b :: rest) pos) tb) : PX X B (.BoolOp .And (a :: b :: rest) pos) (dAndV ta tb) := by
  refine ⟨dAndV_mono ha.mono hb.mono, pe_imp (pe_and ha.pe hb.pe) fun σ H Q q => ?_⟩
  obtain ⟨e, F, s, q⟩ := q
  refine ⟨e, F, s, ha.mono _ _ _ (fun w x ⟨k, ex, q⟩ v F1 H1 st1 m1 r1 => ?_) q⟩
  subst ex
  cases r1
  refine ⟨k, rfl, ?_⟩
  cases k with
  | true =>
    rw [if_pos rfl] at q ⊢
    exact ⟨{ e with w := w }, F1, s.step st1 m1, hb.mono _ _ _ (fun w' d q v F2 H2 st2 m2 r2 => q v F2 H2 (st1.trans st2) m2 r2) q⟩
  | false =>
    rw [if_neg Bool.false_ne_true] at q ⊢
    exact q _ F1 H1 st1 m1 (.bl false)
theorem px_or (ha : PX X B a ta) (hb : PX X B (.BoolOp .Or (b :: rest) pos) tb) : PX X B (.BoolOp .Or (a :: b :: rest) pos) (dOrV ta tb) := by
  refine ⟨dOrV_mono ha.mono hb.mono, pe_imp (pe_or ha.pe hb.pe) fun σ H Q q => ?_⟩
  obtain ⟨e, F, s, q⟩ := q
  refine ⟨e, F, s, ha.mono _ _ _ (fun w x ⟨k, ex, q⟩ v F1 H1 st1 m1 r1 => ?_) q⟩
  subst ex
  cases r1
  refine ⟨k, rfl, ?_⟩
  cases k with
  | true =>
    rw [if_pos rfl] at q ⊢
    exact q _ F1 H1 st1 m1 (.bl true)
  | false =>
    rw [if_neg Bool.false_ne_true] at q ⊢
    exact ⟨{ e with w := w }, F1, s.step st1 m1, hb.mono _ _ _ (fun w' d q v F2 H2 st2 m2 r2 => q v F2 H2 (st1.trans st2) m2 r2) q⟩
theorem px_not (ha : PX X B a ta) : PX X B (.UnaryOp .Not a pos) (dNotV ta) := by
  refine ⟨dNotV_mono ha.mono, pe_imp (pe_not ha.pe) fun σ H Q q => ?_⟩
  obtain ⟨e, F, s, q⟩ := q
  refine ⟨e, F, s, ha.mono _ _ _ (fun w x ⟨k, ex, q⟩ v F1 H1 st1 m1 r1 => ?_) q⟩
  subst ex
  cases r1
  exact ⟨k, rfl, q _ F1 H1 st1 m1 (.bl _)⟩
def dIf (t : TTD) (ta tb : TD) : TD := fun e Q => t e fun w k => if k = true then ta { e with w := w } Q else tb { e with w := w } Q
theorem dIf_mono (h : MonT tA) (h1 : MonD ta) (h2 : MonD tb) : MonD (dIf tA ta tb) := fun e Q Q' i q => h _ _ _ (fun w k q => by
  cases k with
  | true => exact h1 _ _ _ i q
  | false => exact h2 _ _ _ i q) q
theorem px_if (hc : PXT X B c tA) (ha : PX X B a ta) (hb : PX X B b tb) : PX X B (.IfExp c a b pos) (dIf tA ta tb) := by
  refine ⟨dIf_mono hc.mono ha.mono hb.mono, pe_imp (pe_ifExp hc.pt ha.pe hb.pe) fun σ H Q q => ?_⟩
  obtain ⟨e, F, s, q⟩ := q
  refine ⟨e, F, s, hc.mono _ _ _ (fun w k q F1 H1 st1 m1 => ?_) q⟩
  cases k with
  | true =>
    rw [if_pos rfl] at q ⊢
    exact ⟨{ e with w := w }, F1, s.step st1 m1, ha.mono _ _ _ (fun w' d q v F2 H2 st2 m2 r2 => q v F2 H2 (st1.trans st2) m2 r2) q⟩
  | false =>
    rw [if_neg Bool.false_ne_true] at q ⊢
    exact ⟨{ e with w := w }, F1, s.step st1 m1, hb.mono _ _ _ (fun w' d q v F2 H2 st2 m2 r2 => q v F2 H2 (st1.trans st2) m2 r2) q⟩

/-! ### argument lists, displays -/
def dNil : TAD := fun e Q => Q e.w []
def dCons (ta : TD) (tr : TAD) : TAD := fun e Q => ta e fun w x => tr { e with w := w } fun w' xs => Q w' (x :: xs)
theorem dNil_mono : MonA dNil := fun e Q Q' i q => i _ _ q
theorem dCons_mono {tr : TAD} (h : MonD ta) (hr : MonA tr) : MonA (dCons ta tr) := fun e Q Q' i q => h _ _ _ (fun w x q => hr _ _ _ (fun w' xs q => i _ _ q) q) q
variable {es : List Expr} {tr : TAD}
theorem pxa_nil : PXA X B [] dNil := by
  refine ⟨dNil_mono, pa_imp pa_nil fun σ H Q q => ?_⟩
  obtain ⟨e, F, s, q⟩ := q
  exact q [] F H (Step.refl s.fh) s.ms .nil
theorem pxa_cons (ha : PX X B a ta) (hr : PXA X B es tr) (hs : starEach (a :: es) X.env = (false, eval a X.env) :: starEach es X.env := by rfl) : PXA X B (a :: es) (dCons ta tr) := by
  refine ⟨dCons_mono ha.mono hr.mono, pa_imp (pa_cons ha.pe hr.pa hs) fun σ H Q q => ?_⟩
  obtain ⟨e, F, s, q⟩ := q
  refine ⟨e, F, s, ha.mono _ _ _ (fun w x q v F1 H1 st1 m1 r1 => ?_) q⟩
  refine ⟨{ e with w := w }, F1, s.step st1 m1, hr.mono _ _ _ (fun w' xs q vs F2 H2 st2 m2 r2 => ?_) q⟩
  exact q _ F2 H2 (st1.trans st2) m2 (.cons (r1.mono st2.f) r2)
def dTup (t : TAD) : TD := fun e Q => t e fun w xs => xs.length ≤ sizeLine ∧ Q w (.tuple xs)
def dLst (t : TAD) : TD := fun e Q => t e fun w xs => xs.length ≤ sizeLine ∧ Q w (.list xs)
theorem dTup_mono (h : MonA tr) : MonD (dTup tr) := fun e Q Q' i q => h _ _ _ (fun w xs q => ⟨q.1, i _ _ q.2⟩) q
theorem dLst_mono (h : MonA tr) : MonD (dLst tr) := fun e Q Q' i q => h _ _ _ (fun w xs q => ⟨q.1, i _ _ q.2⟩) q
theorem px_tup {x1} (h : PXA X B es tr) : PX X B (.Tuple es x1 pos) (dTup tr) := by
  refine ⟨dTup_mono h.mono, pe_imp (pe_tup h.pa) fun σ H Q q => ?_⟩
  obtain ⟨e, F, s, q⟩ := q
  refine ⟨e, F, s, h.mono _ _ _ (fun w ds q vs F1 H1 st1 m1 r1 => ⟨by rw [r1.length]; exact q.1, fun p hp => ?_⟩) q⟩
  exact q.2 _ _ _ (st1.trans (Step.new st1.h _ hp)) (m1.sub (Sub.new hp)) (.tup (SqT.of upd_same) (r1.mono (Sub.new (st1.h.no hp))))
theorem px_lst (h : PXA X B es tr) : PX X B (.List es pos) (dLst tr) := by
  refine ⟨dLst_mono h.mono, pe_imp (pe_lst h.pa) fun σ H Q q => ?_⟩
  obtain ⟨e, F, s, q⟩ := q
  refine ⟨e, F, s, h.mono _ _ _ (fun w ds q vs F1 H1 st1 m1 r1 => ⟨by rw [r1.length]; exact q.1, fun p hp => ?_⟩) q⟩
  exact q.2 _ _ _ (st1.trans (Step.new st1.h _ hp)) (m1.sub (Sub.new hp)) (.lst upd_same (r1.mono (Sub.new (st1.h.no hp))))
end
end PL
end
section
set_option Elab.async false
set_option linter.all false
set_option maxRecDepth 100000
set_option maxHeartbeats 4000000
set_option autoImplicit false
/-! P2: the operators one by one, subscripts, built-ins, calls of defs. -/
namespace PL
open PySem PySem.Spec PyProof.Rows L2

section
variable {X : Cx} {S : Msh}
/-- a value that the operation hands back as it is -/
theorem fin0 {c : Cc} {F H : Hp} {Q : VK} {d : D} {v : V} (s : Sub F H) (r : Rp c F v d) (q : ∀ v F' H', Step c.S F H F' H' → Sub H H' → Rp c F' v d → Q v H') : Q v H := q v F H (Step.refl s) (Sub.refl H) r
/-- a new object -/
theorem fin1 {c : Cc} {F H : Hp} {Q : VK} {d : D} {o : HO} {p : Addr} (s : Sub F H) (hp : H p = none) (r : Rp c (upd F p o) (.ref p) d) (q : ∀ v F' H', Step c.S F H F' H' → Sub H H' → Rp c F' v d → Q v H') : Q (.ref p) (upd H p o) :=
  q _ _ _ (Step.new s o hp) (Sub.new hp) r
theorem rp_newL {c : Cc} {F : Hp} {p : Addr} {vs : List V} {ds : List D} (hp : F p = none) (r : RpAll c F vs ds) : Rp c (upd F p (.lst vs)) (.ref p) (.list ds) := .lst upd_same (r.mono (Sub.new hp))
theorem rp_newT {c : Cc} {F : Hp} {p : Addr} {vs : List V} {ds : List D} (hp : F p = none) (r : RpAll c F vs ds) : Rp c (upd F p (.tup vs)) (.ref p) (.tuple ds) := .tup (SqT.of upd_same) (r.mono (Sub.new hp))
theorem RpAll.nil_iff {c : Cc} {F : Hp} {vs : List V} {ds : List D} (r : RpAll c F vs ds) : vs = [] ↔ ds = [] := by
  cases r <;> simp
theorem RpAll.nilL {c : Cc} {F : Hp} {vs : List V} (r : RpAll c F vs []) : vs = [] := r.nil_iff.mpr rfl

def rAddD : RD := fun x y Q => match x, y with
  | .int i, .int j => Q (.int (i + j))
  | .list xs, .list ys => xs.length + ys.length ≤ sizeLine ∧ Q (.list (xs ++ ys))
  | .tuple xs, .tuple ys => xs.length + ys.length ≤ sizeLine ∧ Q (.tuple (xs ++ ys))
  | .str a, .str b => a.length + b.length ≤ sizeLine ∧ Q (.str (a ++ b))
  | _, _ => False
theorem od_add : OpD X S (binaryOp .Add) rAddD := by
  refine ⟨fun x y Q Q' h q => ?_, OpR.case fun x y H Q q => ?_⟩
  · unfold rAddD at q ⊢
    split at q
    · exact h _ q
    · exact ⟨q.1, h _ q.2⟩
    · exact ⟨q.1, h _ q.2⟩
    · exact ⟨q.1, h _ q.2⟩
    · exact q
  · obtain ⟨F, d1, d2, s, r1, r2, q⟩ := q
    unfold rAddD at q
    split at q
    · cases r1; cases r2
      exact ⟨_, op_add, _, _, rfl, rfl, fin0 s (.int _) q⟩
    · rename_i xs ys
      cases r1 with
      | lst h1 a1 =>
        cases r2 with
        | lst h2 a2 => exact ⟨_, op_cat, _, _, _, _, rfl, rfl, s _ _ h1, s _ _ h2, by rw [a1.length, a2.length]; exact q.1, fun p hp => fin1 s hp (rp_newL (s.no hp) (a1.append a2)) q.2⟩
    · rename_i xs ys
      cases r1 with
      | tup h1 a1 =>
        cases r2 with
        | tup h2 a2 =>
          refine ⟨_, op_catA, _, _, _, _, rfl, rfl, s.t h1, s.t h2, by rw [a1.length, a2.length]; exact q.1, fun e => ?_, fun _ e => ?_, fun _ _ p hp => fin1 s hp (rp_newT (s.no hp) (a1.append a2)) q.2⟩
          · subst e
            have e1 : xs = [] := a1.nil_iff.mp rfl
            subst e1
            exact fin0 s (.tup h2 a2) q.2
          · subst e
            have e1 : ys = [] := a2.nil_iff.mp rfl
            subst e1
            rw [List.append_nil] at q
            exact fin0 s (.tup h1 a1) q.2
    · cases r1; cases r2
      exact ⟨_, op_add_str, _, _, rfl, rfl, q.1, fin0 s (.str _) q.2⟩
    · exact q.elim
def rSubD : RD := fun x y Q => match x, y with
  | .int i, .int j => Q (.int (i - j))
  | _, _ => False
/-- an operation on two ints -/
theorem od_int {f : Value → Value → Sem Value} {C : Int → Int → Prop} {g : Int → Int → V} {g' : Int → Int → D} {r : RD} (hr : ∀ x y Q, r x y Q → ∃ i j, x = .int i ∧ y = .int j ∧ C i j ∧ Q (g' i j)) (mr : MonR r)
    (rel : ∀ c F i j, Rp c F (g i j) (g' i j)) (h : OpR X f (rI C g)) : OpD X S f r := by
  refine ⟨mr, OpR.imp h fun x y H Q q => ?_⟩
  obtain ⟨F, d1, d2, s, r1, r2, q⟩ := q
  obtain ⟨i, j, e1, e2, c, q1⟩ := hr _ _ _ q
  clear q
  subst e1 e2
  cases r1; cases r2
  exact ⟨i, j, rfl, rfl, c, fin0 s (rel (cc X S) F i j) q1⟩
theorem od_int0 {f : Value → Value → Sem Value} {g : Int → Int → V} {g' : Int → Int → D} {r : RD} (hr : ∀ x y Q, r x y Q → ∃ i j, x = .int i ∧ y = .int j ∧ Q (g' i j)) (mr : MonR r)
    (rel : ∀ c F i j, Rp c F (g i j) (g' i j)) (h : OpR X f (rI0 g)) : OpD X S f r := by
  refine ⟨mr, OpR.imp h fun x y H Q q => ?_⟩
  obtain ⟨F, d1, d2, s, r1, r2, q⟩ := q
  obtain ⟨i, j, e1, e2, q1⟩ := hr _ _ _ q
  clear q
  subst e1 e2
  cases r1; cases r2
  exact ⟨i, j, rfl, rfl, fin0 s (rel (cc X S) F i j) q1⟩
theorem od_sub : OpD X S (binaryOp .Sub) rSubD := od_int0 (g' := fun i j => .int (i - j)) (fun x y Q q => by
  unfold rSubD at q; split at q
  · exact ⟨_, _, rfl, rfl, q⟩
  · exact q.elim) (fun x y Q Q' h q => by
  unfold rSubD at q ⊢; split at q
  · exact h _ q
  · exact q) (fun _ _ _ _ => .int _) op_sub
/-- // and % by a positive divisor -/
def rDivD : RD := fun x y Q => match x, y with
  | .int i, .int j => (0 < j ∧ j.natAbs.log2 < 9000) ∧ Q (.int (i / j))
  | _, _ => False
def rModD : RD := fun x y Q => match x, y with
  | .int i, .int j => 0 < j ∧ Q (.int (i % j))
  | _, _ => False
theorem od_div : OpD X S (binaryOp .FloorDiv) rDivD := od_int (g' := fun i j => .int (i / j)) (C := CDivW) (fun x y Q q => by
  unfold rDivD at q; split at q
  · exact ⟨_, _, rfl, rfl, q.1, q.2⟩
  · exact q.elim) (fun x y Q Q' h q => by
  unfold rDivD at q ⊢; split at q
  · exact ⟨q.1, h _ q.2⟩
  · exact q) (fun _ _ _ _ => .int _) op_fdivW
theorem od_mod : OpD X S (binaryOp .Mod) rModD := od_int (g' := fun i j => .int (i % j)) (C := fun _ j => 0 < j) (fun x y Q q => by
  unfold rModD at q; split at q
  · exact ⟨_, _, rfl, rfl, q.1, q.2⟩
  · exact q.elim) (fun x y Q Q' h q => by
  unfold rModD at q ⊢; split at q
  · exact ⟨q.1, h _ q.2⟩
  · exact q) (fun _ _ _ _ => .int _) op_mod
def rPowD : RD := fun x y Q => match x, y with
  | .int i, .int j => (0 ≤ j ∧ j ≤ 1000000 ∧ i.natAbs < 2 ^ 64) ∧ Q (.int (i ^ j.toNat))
  | _, _ => False
theorem od_pow : OpD X S (binaryOp .Pow) rPowD := od_int (g' := fun i j => .int (i ^ j.toNat)) (C := CPow) (fun x y Q q => by
  unfold rPowD at q; split at q
  · exact ⟨_, _, rfl, rfl, q.1, q.2⟩
  · exact q.elim) (fun x y Q Q' h q => by
  unfold rPowD at q ⊢; split at q
  · exact ⟨q.1, h _ q.2⟩
  · exact q) (fun _ _ _ _ => .int _) op_pow
/-- products: ints (not too great), a list so often, a tuple so often (twice or more) -/
def rMulD : RD := fun x y Q => match x, y with
  | .int i, .int j => i.natAbs.log2 + j.natAbs.log2 < 1000000 ∧ Q (.int (i * j))
  | .list xs, .int k => (-(2 ^ 63) ≤ k ∧ k < 2 ^ 63 ∧ xs.length * k.toNat ≤ sizeLine) ∧ Q (.list (List.replicate k.toNat xs).flatten)
  | .tuple xs, .int k => (xs ≠ [] ∧ 2 ≤ k ∧ k ≤ 1000 ∧ xs.length ≤ 1000) ∧ Q (.tuple (List.replicate k.toNat xs).flatten)
  | _, _ => False
theorem RpAll.flat {c : Cc} {F : Hp} {vs : List V} {ds : List D} (r : RpAll c F vs ds) : ∀ n : Nat, RpAll c F (List.replicate n vs).flatten (List.replicate n ds).flatten
  | 0 => .nil
  | n + 1 => by
    rw [List.replicate_succ, List.replicate_succ, List.flatten_cons, List.flatten_cons]
    exact r.append (r.flat n)
theorem od_mul : OpD X S (binaryOp .Mult) rMulD := by
  refine ⟨fun x y Q Q' h q => ?_, OpR.case fun x y H Q q => ?_⟩
  · unfold rMulD at q ⊢
    split at q
    · exact ⟨q.1, h _ q.2⟩
    · exact ⟨q.1, h _ q.2⟩
    · exact ⟨q.1, h _ q.2⟩
    · exact q
  · obtain ⟨F, d1, d2, s, r1, r2, q⟩ := q
    unfold rMulD at q
    split at q
    · cases r1; cases r2
      exact ⟨_, op_mulW, _, _, rfl, rfl, q.1, fin0 s (.int _) q.2⟩
    · cases r2
      cases r1 with
      | lst h1 a1 => exact ⟨_, op_rep, _, _, _, rfl, rfl, s _ _ h1, q.1.1, q.1.2.1, by rw [a1.length]; exact q.1.2.2, fun p hp => fin1 s hp (rp_newL (s.no hp) (a1.flat _)) q.2⟩
    · cases r2
      cases r1 with
      | tup h1 a1 => exact ⟨_, op_repT, _, _, _, rfl, rfl, s.t h1, fun e => q.1.1 (a1.nil_iff.mp e), q.1.2.1, q.1.2.2.1, by rw [a1.length]; exact q.1.2.2.2, fun p hp => fin1 s hp (rp_newT (s.no hp) (a1.flat _)) q.2⟩
    · exact q.elim

/-! ### comparisons -/
def rCmpD (p : Int → Int → Bool) : RD := fun x y Q => match x, y with
  | .int i, .int j => Q (.bool (p i j))
  | _, _ => False
theorem od_cmp {op : CmpOp} {p : Int → Int → Bool} (h : OpR X (compareOp op) (rI0 fun i j => .bl (p i j))) : OpD X S (compareOp op) (rCmpD p) := od_int0 (g' := fun i j => .bool (p i j)) (fun x y Q q => by
  unfold rCmpD at q; split at q
  · exact ⟨_, _, rfl, rfl, q⟩
  · exact q.elim) (fun x y Q Q' h q => by
  unfold rCmpD at q ⊢; split at q
  · exact h _ q
  · exact q) (fun _ _ _ _ => .bl _) h
theorem od_lt : OpD X S (compareOp .Lt) (rCmpD fun i j => decide (i < j)) := od_cmp op_lt
theorem od_le : OpD X S (compareOp .LtE) (rCmpD fun i j => decide (i ≤ j)) := od_cmp op_le
theorem od_gt : OpD X S (compareOp .Gt) (rCmpD fun i j => decide (j < i)) := od_cmp op_gt
theorem od_ge : OpD X S (compareOp .GtE) (rCmpD fun i j => decide (j ≤ i)) := od_cmp op_ge
def shp (d : D) : Prop := d.canLay0 = true ∧ d.depth ≤ 64
theorem shp.shaped {d : D} (h : shp d) : SeqAt.shaped d = true := by
  show (d.canLay0 && decide (d.depth ≤ 64)) = true
  rw [Bool.and_eq_true]
  exact ⟨h.1, decide_eq_true h.2⟩
def rEqD' (n : Bool) : RD := fun x y Q => shp x ∧ shp y ∧ Q (.bool (if n then !PyData.eqv x y else PyData.eqv x y))
theorem od_eq (hu : X.A.units + 64 < cLine) : OpD X S (compareOp .Eq) (rEqD' false) := by
  refine ⟨fun x y Q Q' h q => ⟨q.1, q.2.1, h _ q.2.2⟩, OpR.imp (op_eqD hu) fun x y H Q q => ?_⟩
  obtain ⟨F, d1, d2, s, r1, r2, s1, s2, q⟩ := q
  exact ⟨d1, d2, (r1.mono s).dp s1.1, (r2.mono s).dp s2.1, s1.shaped, s2.shaped, fin0 s (.bl _) q⟩
theorem od_ne (hu : X.A.units + 64 < cLine) : OpD X S (compareOp .NotEq) (rEqD' true) := by
  refine ⟨fun x y Q Q' h q => ⟨q.1, q.2.1, h _ q.2.2⟩, OpR.imp (op_neD hu) fun x y H Q q => ?_⟩
  obtain ⟨F, d1, d2, s, r1, r2, s1, s2, q⟩ := q
  exact ⟨d1, d2, (r1.mono s).dp s1.1, (r2.mono s).dp s2.1, s1.shaped, s2.shaped, fin0 s (.bl _) q⟩
/-- is None, is True, is False: the right side written -/
def isV (y : V) (x : V) : Bool := decide (x = y)
def isNonD : D → Bool
  | .none => true
  | _ => false
def isBoolD (b : Bool) : D → Bool
  | .bool k => k == b
  | _ => false
theorem Rp.isNon {c : Cc} {F : Hp} {v : V} {d : D} (r : Rp c F v d) : decide (v = .non) = isNonD d := by
  cases r <;> simp [isNonD]
theorem Rp.isBool {c : Cc} {F : Hp} {v : V} {d : D} {b : Bool} (r : Rp c F v d) : decide (v = .bl b) = isBoolD b d := by
  cases r <;> simp [isBoolD, Bool.beq_eq_decide_eq]
def rIsD (n : Bool) : RD := fun x y Q => match y with
  | .none => Q (.bool (if n then !isNonD x else isNonD x))
  | .bool b => Q (.bool (if n then !isBoolD b x else isBoolD b x))
  | _ => False
theorem RelV.is_bool {x : V} {v : Value} {b : Bool} (r : RelV x v) : (v == Value.bool b) = decide (x = .bl b) := by
  cases x with
  | non => cases r; rfl
  | bl k => cases r; cases k <;> cases b <;> rfl
  | int _ => obtain ⟨t, rfl⟩ := r; rfl
  | str _ => obtain ⟨t, rfl⟩ := r; rfl
  | byt _ => obtain ⟨t, rfl⟩ := r; rfl
  | flt _ => obtain ⟨t, rfl⟩ := r; rfl
  | ref _ => cases r; rfl
  | ty _ => cases r; rfl
theorem is_bool_gen {M : Model} {A : Around} {E : Value → Shared → Prop} {s : Shared} {b : Bool} {Q : Value → Shared → Prop} {v : Value} (hv : ∀ i, v ≠ .builtin i) (h : Q (.bool (v == .bool b)) s) : wpAny M A (compareOp .Is v (.bool b)) Q E s := by
  cases v with
  | builtin i => exact absurd rfl (hv i)
  | _ => exact wpAny_pure h
theorem isnot_bool_gen {M : Model} {A : Around} {E : Value → Shared → Prop} {s : Shared} {b : Bool} {Q : Value → Shared → Prop} {v : Value} (hv : ∀ i, v ≠ .builtin i) (h : Q (.bool (!(v == .bool b))) s) : wpAny M A (compareOp .IsNot v (.bool b)) Q E s := by
  cases v with
  | builtin i => exact absurd rfl (hv i)
  | _ => exact wpAny_pure h
theorem RelV.nobuiltin {x : V} {v : Value} (r : RelV x v) : ∀ i, v ≠ .builtin i := fun i e => by
  subst e
  cases x <;> first
    | (cases r; done)
    | (obtain ⟨t, e⟩ := r; cases e)
theorem rIsD_mono (n : Bool) : MonR (rIsD n) := fun x y Q Q' h q => by
  unfold rIsD at q ⊢
  split at q
  · exact h _ q
  · exact h _ q
  · exact q
theorem od_is : OpD X S (compareOp .Is) (rIsD false) := by
  refine ⟨rIsD_mono _, fun pins s σ H x y v u Q I rx ry q => ?_⟩
  obtain ⟨F, d1, d2, sb, r1, r2, q⟩ := q
  unfold rIsD at q
  split at q
  · cases r2; cases ry
    have q2 := q (.bl (isNonD d1)) F H (Step.refl sb) (Sub.refl H) (.bl _)
    exact is_none_gen ⟨_, H, I, by rw [rx.none_iff, r1.isNon]; rfl, q2⟩
  · rename_i b
    cases r2; cases ry
    have q2 := q (.bl (isBoolD b d1)) F H (Step.refl sb) (Sub.refl H) (.bl _)
    exact is_bool_gen (RelV.nobuiltin rx) ⟨_, H, I, by rw [RelV.is_bool rx, r1.isBool]; rfl, q2⟩
  · exact q.elim
theorem od_isnot : OpD X S (compareOp .IsNot) (rIsD true) := by
  refine ⟨rIsD_mono _, fun pins s σ H x y v u Q I rx ry q => ?_⟩
  obtain ⟨F, d1, d2, sb, r1, r2, q⟩ := q
  unfold rIsD at q
  split at q
  · cases r2; cases ry
    have q2 := q (.bl (!isNonD d1)) F H (Step.refl sb) (Sub.refl H) (.bl _)
    exact isnot_none_gen ⟨_, H, I, by rw [rx.none_iff, r1.isNon]; rfl, q2⟩
  · rename_i b
    cases r2; cases ry
    have q2 := q (.bl (!isBoolD b d1)) F H (Step.refl sb) (Sub.refl H) (.bl _)
    exact isnot_bool_gen (RelV.nobuiltin rx) ⟨_, H, I, by rw [RelV.is_bool rx, r1.isBool]; rfl, q2⟩
  · exact q.elim
/-! x in (a, b, ..), flat items -/
def flatD : D → Bool
  | .none => true
  | .bool _ => true
  | .int _ => true
  | .str _ => true
  | _ => false
theorem Rp.flat {c : Cc} {F : Hp} {v : V} {d : D} (r : Rp c F v d) (h : flatD d = true) : flatV v = true := by
  cases r <;> first | rfl | (exact absurd h (by simp [flatD]))
theorem RpAll.flatAll {c : Cc} {F : Hp} : ∀ {vs : List V} {ds : List D}, RpAll c F vs ds → ds.all flatD = true → vs.all flatV = true
  | _, _, .nil, _ => rfl
  | _, _, .cons h r, e => by
    rw [List.all_cons, Bool.and_eq_true] at e ⊢
    exact ⟨h.flat e.1, r.flatAll e.2⟩
theorem Rp.eqv {c : Cc} {F : Hp} {v u : V} {d e : D} (r : Rp c F v d) (q : Rp c F u e) (h : flatD d = true) (h' : flatD e = true) : eqV v u = PyData.eqv d e := by
  cases r <;> first
    | (simp [flatD] at h; done)
    | (cases q <;> first
      | (simp [flatD] at h'; done)
      | (simp [eqV, PyData.eqv]; done)
      | rfl)
theorem RpAll.inV {c : Cc} {F : Hp} {u : V} {e : D} (q : Rp c F u e) (h' : flatD e = true) : ∀ {vs : List V} {ds : List D}, RpAll c F vs ds → ds.all flatD = true → L2.inV u vs = ds.any fun y => PyData.eqv y e
  | _, _, .nil, _ => rfl
  | _, _, .cons h r, z => by
    rw [List.all_cons, Bool.and_eq_true] at z
    have ih := RpAll.inV q h' r z.2
    unfold L2.inV at ih ⊢
    rw [List.any_cons, List.any_cons, ih, Rp.eqv h q z.1 h']
def rInD' (n : Bool) : RD := fun x y Q => match y with
  | .list ys => (flatD x = true ∧ ys.all flatD = true) ∧ Q (.bool (if n then !ys.any fun y => PyData.eqv y x else ys.any fun y => PyData.eqv y x))
  | .tuple ys => (flatD x = true ∧ ys.all flatD = true) ∧ Q (.bool (if n then !ys.any fun y => PyData.eqv y x else ys.any fun y => PyData.eqv y x))
  | _ => False
theorem rInD'_mono (n : Bool) : MonR (rInD' n) := fun x y Q Q' h q => by
  unfold rInD' at q ⊢
  split at q
  · exact ⟨q.1, h _ q.2⟩
  · exact ⟨q.1, h _ q.2⟩
  · exact q
theorem rIn_of {n : Bool} {x y : V} {H : Hp} {Q : VK} (q : liftR (cc X S) (rInD' n) x y H Q) : rIn X.K n x y H Q := by
  obtain ⟨F, d1, d2, s, r1, r2, q⟩ := q
  unfold rInD' at q
  split at q
  · cases r2 with
    | lst h a => exact ⟨_, _, rfl, .inl (SqL.of (s _ _ h)), r1.flat q.1.1, a.flatAll q.1.2, by rw [RpAll.inV r1 q.1.1 a q.1.2]; exact fin0 s (.bl _) q.2⟩
  · cases r2 with
    | tup h a => exact ⟨_, _, rfl, .inr (s.t h), r1.flat q.1.1, a.flatAll q.1.2, by rw [RpAll.inV r1 q.1.1 a q.1.2]; exact fin0 s (.bl _) q.2⟩
  · exact q.elim
theorem od_in : OpD X S (compareOp .In) (rInD' false) := ⟨rInD'_mono _, OpR.imp op_in_seq fun x y H Q q => rIn_of q⟩
theorem od_notin : OpD X S (compareOp .NotIn) (rInD' true) := ⟨rInD'_mono _, OpR.imp op_notIn_seq fun x y H Q q => rIn_of q⟩
end
end PL
end
section
set_option Elab.async false
set_option linter.all false
set_option maxRecDepth 100000
set_option maxHeartbeats 4000000
set_option autoImplicit false
/-! P3: subscripts, slices, built-ins, calls of defs. -/
namespace PL
open PySem PySem.Spec PyProof.Rows L2

section
variable {X : Cx} {B : Bd} {a b c : Expr} {ta tb tc : TD} {pos : Pos}

/-! ### subscripts -/
structure IxD (X : Cx) (S : Msh) (r : RD) : Prop where
  mono : MonR r
  op : IxR X (liftR (cc X S) r)
theorem IxR.case {r' : R2} (i : ∀ x y H Q, r' x y H Q → ∃ r : R2, IxR X r ∧ r x y H Q) : IxR X r' :=
  fun value slice pins s σ H x y v u Q I rx ry q hs => by
    obtain ⟨r, h, q'⟩ := i x y H Q q
    exact h value slice pins s σ H x y v u Q I rx ry q' hs
theorem px_ix {r : RD} (ho : IxD X B.S r) (ha : PX X B a ta) (hb : PX X B b tb) (hs : PlainIx b) : PX X B (.Subscript a b pos) (dOp r ta tb) :=
  ⟨dOp_mono ho.mono ha.mono hb.mono, pe_imp (pe_ix ho.op ha.pe hb.pe hs) fun σ H Q q => two ha.mono hb.mono ho.mono q⟩
def rIxD : RD := fun x y Q => match x, y with
  | .list xs, .int i => ∃ d, atI xs i = some d ∧ Q d
  | .tuple xs, .int i => ∃ d, atI xs i = some d ∧ Q d
  | .str z, .int i => z.length ≤ sizeLine ∧ ∃ c, atI z.cps.toList i = some c ∧ Q (.str ⟨#[c]⟩)
  | _, _ => False
theorem RpAll.atI {c : Cc} {F : Hp} {vs : List V} {ds : List D} {i : Int} {d : D} (r : RpAll c F vs ds) (h : L2.atI ds i = some d) : ∃ v, L2.atI vs i = some v ∧ Rp c F v d := by
  unfold L2.atI at h ⊢
  rw [r.length]
  cases e : ixN ds.length i with
  | none => rw [e] at h; cases h
  | some j =>
    rw [e] at h
    exact r.get h
theorem id_ix {S : Msh} : IxD X S rIxD := by
  refine ⟨fun x y Q Q' h q => ?_, IxR.case fun x y H Q q => ?_⟩
  · unfold rIxD at q ⊢
    split at q
    · obtain ⟨d, e, q⟩ := q; exact ⟨d, e, h _ q⟩
    · obtain ⟨d, e, q⟩ := q; exact ⟨d, e, h _ q⟩
    · obtain ⟨z, d, e, q⟩ := q; exact ⟨z, d, e, h _ q⟩
    · exact q
  · obtain ⟨F, d1, d2, s, r1, r2, q⟩ := q
    unfold rIxD at q
    split at q
    · obtain ⟨d, e, q⟩ := q
      cases r2
      cases r1 with
      | lst h1 a1 =>
        obtain ⟨v, ev, rv⟩ := a1.atI e
        exact ⟨_, ix_list, _, _, _, _, rfl, rfl, SqL.of (s _ _ h1), ev, fin0 s rv q⟩
    · obtain ⟨d, e, q⟩ := q
      cases r2
      cases r1 with
      | tup h1 a1 =>
        obtain ⟨v, ev, rv⟩ := a1.atI e
        exact ⟨_, ix_tup, _, _, _, _, rfl, rfl, s.t h1, ev, fin0 s rv q⟩
    · obtain ⟨z, d, e, q⟩ := q
      cases r1; cases r2
      exact ⟨_, ix_str, _, _, _, rfl, rfl, z, e, fin0 s (.str _) q⟩
    · exact q.elim
/-- an item of an own list -/
def dIxO (i : Nat) (tb : TD) : TD := fun e Q => ∃ xs, e.s[i]? = some (.own xs) ∧ tb e fun w y => ∃ k d, y = .int k ∧ L2.atI xs k = some d ∧ Q w d
theorem px_ixO (i : Nat) {x : Str} {p1 : Pos} (h : PE X (.Name x p1) (tVar i)) (hb : PX X B b tb) (hs : PlainIx b) : PX X B (.Subscript (.Name x p1) b pos) (dIxO i tb) := by
  refine ⟨fun e Q Q' h ⟨xs, e1, q⟩ => ⟨xs, e1, hb.mono _ _ _ (fun w y ⟨k, d, ey, ed, q⟩ => ⟨k, d, ey, ed, h _ _ q⟩) q⟩, pe_imp (pe_ix ix_list h hb.pe hs) fun σ H Q q => ?_⟩
  obtain ⟨e, F, s, xs, e1, q⟩ := q
  obtain ⟨p, vs, o1, fp, np, hp, r⟩ := s.rel i _ e1
  refine ⟨.ref p, o1, e, F, s, hb.mono _ _ _ (fun w y ⟨k, d, ey, ed, q⟩ v F1 H1 st1 m1 r1 => ?_) q⟩
  subst ey
  cases r1
  obtain ⟨u, eu, ru⟩ := r.atI ed
  exact ⟨p, vs, k, u, rfl, rfl, SqL.of (st1.k _ _ hp np), eu, q u F1 H1 st1 m1 (ru.mono st1.f)⟩

/-! ### slices -/
abbrev TOD := Ev → (Nat → Option Int → Prop) → Prop
def liftO (A : Am) (t : TOD) : TO := fun σ H Q => ∃ e F, Sim A e F σ H ∧ t e fun w o => ∀ F' H', Step A.c.S F H F' H' → MSt A.c.S w H' → Q o H'
structure PXO (X : Cx) (B : Bd) (e : Option Expr) (t : TOD) : Prop where
  mono : ∀ e Q Q', (∀ w o, Q w o → Q' w o) → t e Q → t e Q'
  po : PO X e (liftO (am X B) t)
theorem po_imp {e : Option Expr} {t t' : TO} (h : PO X e t) (i : ∀ σ H Q, t' σ H Q → t σ H Q) : PO X e t' := ⟨fun pins s σ H Q I q => h.run pins s σ H Q I (i σ H Q q)⟩
def dNoPart : TOD := fun e Q => Q e.w none
def dPart (t : TD) : TOD := fun e Q => t e fun w x => ∃ i, x = .int i ∧ Q w (some i)
theorem pxo_none : PXO X B none dNoPart := ⟨fun e Q Q' h q => h _ _ q, po_imp po_none fun σ H Q q => by
  obtain ⟨e, F, s, q⟩ := q
  exact q F H (Step.refl s.fh) s.ms⟩
theorem pxo_some (h : PX X B a ta) : PXO X B (some a) (dPart ta) := ⟨fun e Q Q' i q => h.mono _ _ _ (fun w x ⟨k, ex, q⟩ => ⟨k, ex, i _ _ q⟩) q, po_imp (po_some h.pe) fun σ H Q q => by
  obtain ⟨e, F, s, q⟩ := q
  refine ⟨e, F, s, h.mono _ _ _ (fun w x ⟨k, ex, q⟩ v F1 H1 st1 m1 r1 => ?_) q⟩
  subst ex
  cases r1
  exact ⟨k, rfl, q F1 H1 st1 m1⟩⟩
def cutD {α : Type} (xs : List α) (lo hi : Option Int) : List α := (xs.drop (HT.sIx xs.length 0 lo)).take (HT.sIx xs.length xs.length hi - HT.sIx xs.length 0 lo)
theorem RpAll.cut {c : Cc} {F : Hp} {vs : List V} {ds : List D} (r : RpAll c F vs ds) (lo hi : Option Int) : RpAll c F (cutV vs lo hi) (cutD ds lo hi) := by
  unfold cutV cutD
  rw [r.length]
  exact (r.drop _).take _
abbrev RSl := D → Option Int → Option Int → (D → Prop) → Prop
def rSlD : RSl := fun x lo hi Q => match x with
  | .list xs => Q (.list (cutD xs lo hi))
  | .tuple xs => Q (.tuple (cutD xs lo hi))
  | _ => False
theorem rSlD_mono : ∀ x lo hi Q Q', (∀ d, Q d → Q' d) → rSlD x lo hi Q → rSlD x lo hi Q' := fun x lo hi Q Q' h q => by
  unfold rSlD at q ⊢
  split at q
  · exact h _ q
  · exact h _ q
  · exact q
def liftSl (c : Cc) (r : RSl) : V → Option Int → Option Int → Hp → VK → Prop := fun x lo hi H Q => ∃ F d, Sub F H ∧ Rp c F x d ∧ r d lo hi fun d => ∀ v F' H', Step c.S F H F' H' → Sub H H' → Rp c F' v d → Q v H'
theorem sIx_full {n : Nat} {lo hi : Option Int} (h : HT.sIx n 0 lo = 0 ∧ HT.sIx n n hi = n) {ds : List D} (e : ds.length = n) : cutD ds lo hi = ds := by
  unfold cutD
  rw [e, h.1, h.2, List.drop_zero, Nat.sub_zero, ← e, List.take_length]
theorem sl_d {S : Msh} : SlR X (liftSl (cc X S) rSlD) := by
  intro pins s σ H x v vl vu lo hi sl Q I rx hs pl pu q
  obtain ⟨F, d, sb, r, q⟩ := q
  unfold rSlD at q
  split at q
  · rename_i xs
    cases r with
    | lst h1 a1 => exact sl_list pins s σ H _ v vl vu lo hi sl Q I rx hs pl pu ⟨_, _, rfl, SqL.of (sb _ _ h1), fun p hp => fin1 sb hp (rp_newL (sb.no hp) (a1.cut lo hi)) q⟩
  · rename_i xs
    cases r with
    | tup h1 a1 =>
      refine sl_tupA pins s σ H _ v vl vu lo hi sl Q I rx hs pl pu ⟨_, _, rfl, sb.t h1, fun hw => ?_, fun hw p hp => fin1 sb hp (rp_newT (sb.no hp) (a1.cut lo hi)) q⟩
      rw [sIx_full hw a1.length.symm] at q
      exact fin0 sb (.tup h1 a1) q
  · exact q.elim
def dSl (t : TD) (tl th : TOD) : TD := fun e Q => t e fun w x => tl { e with w := w } fun w1 lo => th { e with w := w1 } fun w2 hi => rSlD x lo hi (Q w2)
theorem px_slice {lo hi : Option Expr} {tl th : TOD} {p2 : Pos} (ha : PX X B a ta) (hl : PXO X B lo tl) (hu : PXO X B hi th) : PX X B (.Subscript a (.Slice lo hi none p2) pos) (dSl ta tl th) := by
  refine ⟨fun e Q Q' h q => ha.mono _ _ _ (fun w x q => hl.mono _ _ _ (fun w1 o q => hu.mono _ _ _ (fun w2 o2 q => rSlD_mono _ _ _ _ _ (fun d q => h _ _ q) q) q) q) q, pe_imp (pe_slice (sl_d (S := B.S)) ha.pe hl.po hu.po) fun σ H Q q => ?_⟩
  obtain ⟨e, F, s, q⟩ := q
  refine ⟨e, F, s, ha.mono _ _ _ (fun w x q v F1 H1 st1 m1 r1 => ?_) q⟩
  refine ⟨{ e with w := w }, F1, s.step st1 m1, hl.mono _ _ _ (fun w1 o q F2 H2 st2 m2 => ?_) q⟩
  refine ⟨{ e with w := w1 }, F2, (s.step (st1.trans st2) m2), hu.mono _ _ _ (fun w2 o2 q F3 H3 st3 m3 => ?_) q⟩
  exact ⟨F3, x, st3.h, r1.mono (st2.f.trans st3.f), rSlD_mono _ _ _ _ _ (fun d q v F' H' st sb r => q v F' H' (((st1.trans st2).trans st3).trans st) (m3.sub sb) r) q⟩

/-! ### built-ins by their names -/
abbrev RC := List D → (D → Prop) → Prop
def liftC (c : Cc) (r : RC) : List V → Hp → VK → Prop := fun vs H Q => ∃ F ds, Sub F H ∧ RpAll c F vs ds ∧ r ds fun d => ∀ v F' H', Step c.S F H F' H' → Sub H H' → Rp c F' v d → Q v H'
structure CallD (X : Cx) (S : Msh) (f : Value) (r : RC) : Prop where
  mono : ∀ ds Q Q', (∀ d, Q d → Q' d) → r ds Q → r ds Q'
  op : CallR X f (liftC (cc X S) r)
theorem CallR.case {f : Value} {r' : List V → Hp → VK → Prop} (i : ∀ xs H Q, r' xs H Q → ∃ r : List V → Hp → VK → Prop, CallR X f r ∧ r xs H Q) : CallR X f r' :=
  fun pins s σ H xs us Q I r q => by
    obtain ⟨r0, h, q'⟩ := i xs H Q q
    exact h pins s σ H xs us Q I r q'
def dCB (r : RC) (t : TAD) : TD := fun e Q => t e fun w ds => r ds (Q w)
variable {es : List Expr} {tr : TAD} {x : Str} {p : Pos}
theorem one_c {A : Am} {t : TAD} {r : RC} (mt : MonA t) (mr : ∀ ds Q Q', (∀ d, Q d → Q' d) → r ds Q → r ds Q') {σ : L2.St} {H : Hp} {Q : VK} (q : lift A (dCB r t) σ H Q) : liftA A t σ H fun vs H1 => liftC A.c r vs H1 Q := by
  obtain ⟨e, F, s, q⟩ := q
  refine ⟨e, F, s, mt _ _ _ (fun w ds q vs F1 H1 st1 m1 r1 => ?_) q⟩
  exact ⟨F1, ds, st1.h, r1, mr _ _ _ (fun d q v F' H' st sb r => q v F' H' (st1.trans st) (m1.sub sb) r) q⟩
theorem dCB_mono {t : TAD} {r : RC} (mt : MonA t) (mr : ∀ ds Q Q', (∀ d, Q d → Q' d) → r ds Q → r ds Q') : MonD (dCB r t) := fun e Q Q' h q => mt _ _ _ (fun w ds q => mr _ _ _ (fun d q => h _ _ q) q) q
theorem px_callB {id : String} {r : RC} (hc : CallD X B.S (.builtin id) r) (hg : Gl X x) (hm : X.mg x = none) (hv : bootBuiltins x = some (.builtin id)) (ha : PXA X B (a :: es) tr) (hn : x ≠ "__name__" := by decide) (hdb : (x == ("__debug__" : Str)) = false := by decide)
    (he : starEach (a :: es) X.env = (false, eval a X.env) :: starEach es X.env := by rfl) (hpl : (backTo pos (starEach es X.env)).any (·.1) = false := by rfl) : PX X B (.Call (.Name x p) (a :: es) [] pos) (dCB r tr) :=
  ⟨dCB_mono ha.mono hc.mono, pe_imp (pe_callB hc.op hg hm hv ha.pa hn hdb he hpl) fun σ H Q q => one_c ha.mono hc.mono q⟩
theorem px_callTy {T : String} {r : RC} (hc : CallD X B.S (.type T) r) (hg : Gl X x) (hm : X.mg x = none) (hv : bootBuiltins x = some (.type T)) (ha : PXA X B (a :: es) tr) (hn : x ≠ "__name__" := by decide) (hdb : (x == ("__debug__" : Str)) = false := by decide)
    (he : starEach (a :: es) X.env = (false, eval a X.env) :: starEach es X.env := by rfl) (hpl : (backTo pos (starEach es X.env)).any (·.1) = false := by rfl) : PX X B (.Call (.Name x p) (a :: es) [] pos) (dCB r tr) :=
  ⟨dCB_mono ha.mono hc.mono, pe_imp (pe_callTy hc.op hg hm hv ha.pa hn hdb he hpl) fun σ H Q q => one_c ha.mono hc.mono q⟩
theorem px_callF {id : String} {r : RC} (hc : CallD X B.S (.builtin id) r) (hg : Gl X x) (hm : X.mg x = some (.builtin id)) (ha : PXA X B (a :: es) tr) (hdb : (x == ("__debug__" : Str)) = false := by decide)
    (he : starEach (a :: es) X.env = (false, eval a X.env) :: starEach es X.env := by rfl) (hpl : (backTo pos (starEach es X.env)).any (·.1) = false := by rfl) : PX X B (.Call (.Name x p) (a :: es) [] pos) (dCB r tr) :=
  ⟨dCB_mono ha.mono hc.mono, pe_imp (pe_callBfun hc.op hg hm ha.pa hdb he hpl) fun σ H Q q => one_c ha.mono hc.mono q⟩

section
variable {S : Msh}
def lenD : D → Option Nat
  | .str y => if y.length ≤ sizeLine then some y.length else none
  | .list xs => some xs.length
  | .tuple xs => some xs.length
  | _ => none
def rLenD : RC := fun ds Q => ∃ x n, ds = [x] ∧ lenD x = some n ∧ Q (.int n)
theorem RpAll.one {c : Cc} {F : Hp} {vs : List V} {d : D} (r : RpAll c F vs [d]) : ∃ v, vs = [v] ∧ Rp c F v d := by
  cases r with
  | cons h t => cases t; exact ⟨_, rfl, h⟩
theorem RpAll.two {c : Cc} {F : Hp} {vs : List V} {d e : D} (r : RpAll c F vs [d, e]) : ∃ v u, vs = [v, u] ∧ Rp c F v d ∧ Rp c F u e := by
  cases r with
  | cons h t =>
    obtain ⟨u, e, r⟩ := t.one
    subst e
    exact ⟨_, _, rfl, h, r⟩
theorem cd_len : CallD X S (.builtin "len") rLenD := by
  refine ⟨fun ds Q Q' h ⟨x, n, e, l, q⟩ => ⟨x, n, e, l, h _ q⟩, CallR.case fun xs H Q q => ⟨_, call_len, ?_⟩⟩
  obtain ⟨F, ds, s, r, x, n, e, l, q⟩ := q
  subst e
  obtain ⟨v, e, r1⟩ := r.one
  subst e
  refine ⟨v, n, rfl, ?_, fin0 s (.int _) q⟩
  cases r1 with
  | str y =>
    simp only [lenD] at l
    split at l
    · rename_i h; exact ⟨h, (Option.some.inj l).symm⟩
    · cases l
  | lst h a =>
    have e : n = _ := (Option.some.inj l).symm
    exact .inl ⟨_, SqL.of (s _ _ h), by rw [e, a.length]⟩
  | tup h a =>
    have e : n = _ := (Option.some.inj l).symm
    exact .inr ⟨_, s.t h, by rw [e, a.length]⟩
  | _ => simp [lenD] at l
/-- a built-in of ints -/
theorem cd_int1 {f : Value} {g : Int → Int} (h : CallR X f (fun xs H Q => ∃ i, xs = [.int i] ∧ Q (.int (g i)) H)) : CallD X S f (fun ds Q => ∃ i, ds = [.int i] ∧ Q (.int (g i))) := by
  refine ⟨fun ds Q Q' h ⟨i, e, q⟩ => ⟨i, e, h _ q⟩, CallR.case fun xs H Q q => ⟨_, h, ?_⟩⟩
  obtain ⟨F, ds, s, r, i, e, q⟩ := q
  subst e
  obtain ⟨v, e, r1⟩ := r.one
  subst e
  cases r1
  exact ⟨i, rfl, fin0 s (.int _) q⟩
theorem cd_int2 {f : Value} {g : Int → Int → Int} (h : CallR X f (fun xs H Q => ∃ i j, xs = [.int i, .int j] ∧ Q (.int (g i j)) H)) : CallD X S f (fun ds Q => ∃ i j, ds = [.int i, .int j] ∧ Q (.int (g i j))) := by
  refine ⟨fun ds Q Q' h ⟨i, j, e, q⟩ => ⟨i, j, e, h _ q⟩, CallR.case fun xs H Q q => ⟨_, h, ?_⟩⟩
  obtain ⟨F, ds, s, r, i, j, e, q⟩ := q
  subst e
  obtain ⟨v, u, e, r1, r2⟩ := r.two
  subst e
  cases r1; cases r2
  exact ⟨i, j, rfl, fin0 s (.int _) q⟩
theorem cd_abs : CallD X S (.builtin "abs") (fun ds Q => ∃ i, ds = [.int i] ∧ Q (.int (if i < 0 then -i else i))) := cd_int1 call_abs
theorem cd_min2 (hc : X.calm = true) : CallD X S (.builtin "min") (fun ds Q => ∃ i j, ds = [.int i, .int j] ∧ Q (.int (if j < i then j else i))) := cd_int2 (call_min2 hc)
theorem cd_max2 (hc : X.calm = true) : CallD X S (.builtin "max") (fun ds Q => ∃ i j, ds = [.int i, .int j] ∧ Q (.int (if j > i then j else i))) := cd_int2 (call_max2 hc)
theorem cd_gcd : CallD X S (.builtin "math.gcd") (fun ds Q => ∃ i j : Int, ds = [.int i, .int j] ∧ Q (.int ((Nat.gcd i.natAbs j.natAbs : Nat) : Int))) := cd_int2 cr_gcd
theorem cd_int : CallD X S (.type "int") (fun ds Q => ∃ i, ds = [.int i] ∧ Q (.int i)) := by
  refine cd_int1 (g := fun i => i) fun pins s σ H xs us Q I r q => ?_
  obtain ⟨i, e, q⟩ := q
  exact call_int1 pins s σ H xs us Q I r (.inl ⟨i, e, q⟩)
/-- tuple(xs), list(xs) -/
def rTupleD : RC := fun ds Q => ∃ xs, (ds = [.list xs] ∨ ds = [.tuple xs]) ∧ Q (.tuple xs)
def rListD : RC := fun ds Q => ∃ xs, (ds = [.list xs] ∨ ds = [.tuple xs]) ∧ Q (.list xs)
theorem cd_tuple : CallD X S (.type "tuple") rTupleD := by
  refine ⟨fun ds Q Q' h ⟨x, e, q⟩ => ⟨x, e, h _ q⟩, CallR.case fun xs H Q q => ⟨_, call_tuple_of, ?_⟩⟩
  obtain ⟨F, ds, s, r, x, e, q⟩ := q
  rcases e with e | e
  · subst e
    obtain ⟨v, e, r1⟩ := r.one
    subst e
    cases r1 with
    | lst h a => exact ⟨_, _, rfl, .inl ⟨SqL.of (s _ _ h), fun p hp => fin1 s hp (rp_newT (s.no hp) a) q⟩⟩
  · subst e
    obtain ⟨v, e, r1⟩ := r.one
    subst e
    cases r1 with
    | tup h a => exact ⟨_, _, rfl, .inr ⟨s.t h, fin0 s (.tup h a) q⟩⟩
theorem cd_list : CallD X S (.type "list") rListD := by
  refine ⟨fun ds Q Q' h ⟨x, e, q⟩ => ⟨x, e, h _ q⟩, CallR.case fun xs H Q q => ⟨_, call_list_of, ?_⟩⟩
  obtain ⟨F, ds, s, r, x, e, q⟩ := q
  rcases e with e | e
  · subst e
    obtain ⟨v, e, r1⟩ := r.one
    subst e
    cases r1 with
    | lst h a => exact ⟨_, _, rfl, .inl (SqL.of (s _ _ h)), fun p hp => fin1 s hp (rp_newL (s.no hp) a) q⟩
  · subst e
    obtain ⟨v, e, r1⟩ := r.one
    subst e
    cases r1 with
    | tup h a => exact ⟨_, _, rfl, .inr (s.t h), fun p hp => fin1 s hp (rp_newL (s.no hp) a) q⟩
end

/-! ### isinstance(x, T) -/
def tyD : D → Option String
  | .none => some "NoneType"
  | .bool _ => some "bool"
  | .int _ => some "int"
  | .str _ => some "str"
  | .list _ => some "list"
  | .tuple _ => some "tuple"
  | .dict _ => none
def isTy (T : String) (d : D) : Bool := match d with
  | .none => T == "NoneType"
  | .bool _ => T == "bool" || T == "int"
  | .int _ => T == "int"
  | .str _ => T == "str"
  | .list _ => T == "list"
  | .tuple _ => T == "tuple"
  | .dict _ => false
theorem kit_tab : ∀ T ∈ (["int", "bool", "str", "tuple", "list"] : List String), ∀ n ∈ (["NoneType", "bool", "int", "str", "list", "tuple"] : List String), kitB n T = some (n == T || (n == "bool" && T == "int")) := by decide +kernel
theorem tyX_of {K : PySem.W.Frag} {H : Hp} {a : Addr} {xs : List V} (h : SqT K H a xs) : TyX K H (.ref a) (.type "tuple") := by
  rcases h with (h | ⟨o, h⟩) | ⟨o, its, n, h, hc, _⟩
  · exact .base (.tup h)
  · exact .fTuple h
  · exact .kTuple h hc
def dIsi (T : String) (t : TD) : TD := fun e Q => t e fun w x => (tyD x).isSome = true ∧ Q w (.bool (isTy T x))
theorem px_isi {T : String} {y : Str} {p1 : Pos} (hT : T ∈ (["int", "bool", "str", "tuple", "list"] : List String)) (hg : Gl X "isinstance") (hm : X.mg "isinstance" = none) (hgT : Gl X y) (hmT : X.mg y = none) (hvT : bootBuiltins y = some (.type T)) (ha : PX X B a ta)
    (hny : y ≠ "__name__" := by decide) (hdy : (y == ("__debug__" : Str)) = false := by decide)
    (he : starEach [a, .Name y p1] X.env = [(false, eval a X.env), (false, eval (.Name y p1) X.env)] := by rfl) (he2 : starEach [.Name y p1] X.env = [(false, eval (.Name y p1) X.env)] := by rfl)
    (hpl : (backTo pos (starEach [.Name y p1] X.env)).any (·.1) = false := by rfl) : PX X B (.Call (.Name "isinstance" p) [a, .Name y p1] [] pos) (dIsi T ta) := by
  have hb : PE X (.Name y p1) (tC (.ty T)) := pe_bltn hgT hmT hvT (show RelV (.ty T) (.type T) from rfl) hny hdy
  refine ⟨fun e Q Q' h q => ha.mono _ _ _ (fun w x q => ⟨q.1, h _ _ q.2⟩) q, pe_imp (pe_callB call_isi hg hm (by decide +kernel) (pa_cons ha.pe (pa_cons hb pa_nil (by rw [he2]; rfl)) (by rw [he, he2])) (by decide) (by decide) (by rw [he, he2]) hpl) fun σ H Q q => ?_⟩
  obtain ⟨e, F, s, q⟩ := q
  refine ⟨e, F, s, ha.mono _ _ _ (fun w x q v F1 H1 st1 m1 r1 => ?_) q⟩
  have fin : Q (.bl (isTy T x)) H1 := q.2 _ F1 H1 st1 m1 (.bl _)
  have kit : ∀ n ∈ (["NoneType", "bool", "int", "str", "list", "tuple"] : List String), kitB n T = some (n == T || (n == "bool" && T == "int")) := kit_tab T hT
  have comm : ∀ n : String, (n == T) = (T == n) := fun n => by
    rw [Bool.eq_iff_iff, beq_iff_eq, beq_iff_eq]; exact ⟨Eq.symm, Eq.symm⟩
  have go : ∀ n ∈ (["NoneType", "bool", "int", "str", "list", "tuple"] : List String), TyX X.K H1 v (.type n) → isTy T x = (n == T || (n == "bool" && T == "int")) → rIsi X.K [v, .ty T] H1 Q := fun n hn ty e => ⟨v, .ty T, .type n, .type T, _, rfl, .ty T, ty, kit_ty (kit n hn), by rw [← e]; exact fin⟩
  cases r1 with
  | non => exact go "NoneType" (by decide) (.base .non) (by simp [isTy, comm])
  | bl k => exact go "bool" (by decide) (.base (.bl k)) (by simp [isTy, comm])
  | int i => exact go "int" (by decide) (.base (.int i)) (by simp [isTy, comm])
  | str z => exact go "str" (by decide) (.base (.str z)) (by simp [isTy, comm])
  | lst h a => exact go "list" (by decide) (.base (.lst (st1.h _ _ h))) (by simp [isTy, comm])
  | tup h a => exact go "tuple" (by decide) (tyX_of (st1.h.t h)) (by simp [isTy, comm])
  | st h => simp [tyD] at q
  | fn h => simp [tyD] at q
  | rf h => simp [tyD] at q
  | ex h r => simp [tyD] at q
end
end PL
end
section
set_option Elab.async false
set_option linter.all false
set_option maxRecDepth 100000
set_option maxHeartbeats 4000000
set_option autoImplicit false
/-! P4: calls of defs, statements, own lists. -/
namespace PL
open PySem PySem.Spec PyProof.Rows L2

/-! ### what a def promises over data -/
abbrev FX := Option (Str × D)
abbrev ED := Addr → FX → Nat → Prop
abbrev SpD := List D → Nat → (Nat → D → Prop) → ED → Prop
def XRel (c : Cc) (F H : Hp) (d : Option Addr) : FX → Prop
  | none => d = none
  | some (f, x) => ∃ dx v, d = some dx ∧ F dx = some (.xd [(f, v)]) ∧ Rp c F v x
def spOf (K : PySem.W.Frag) (mg : Str → Option Value) (sp : SpD) : Sp := fun vs H Q E => ∃ (S : Msh) (F : Hp) (ds : List D) (w : Nat), Sub F H ∧ MSt S w H ∧ (∀ a, S.mut a → F a = none) ∧ RpAll ⟨K, mg, S⟩ F vs ds ∧
  sp ds w (fun w' d => ∀ v F' H', Step S F H F' H' → MSt S w' H' → Rp ⟨K, mg, S⟩ F' v d → Q v H')
    (fun C fx w' => ∀ d F' H', Step S F H F' H' → MSt S w' H' → XRel ⟨K, mg, S⟩ F' H' d fx → E (.ref C) d H')
def SpMono (sp : SpD) : Prop := ∀ ds w Q Q' E E', (∀ w d, Q w d → Q' w d) → (∀ C f w, E C f w → E' C f w) → sp ds w Q E → sp ds w Q' E'
/-- what is wished of exceptions, from the def's entry -/
def EdB (X : Cx) (B : Bd) (E : XK) : ED := fun C fx w => ∀ d F' H', Step B.S B.F0 B.H0 F' H' → MSt B.S w H' → XRel (cc X B.S) F' H' d fx → E (.ref C) d H'
def dCall (sp : SpD) (ed : ED) (t : TAD) : TD := fun e Q => t e fun w ds => sp ds w Q ed
section
variable {X : Cx} {B : Bd} {a b c : Expr} {ta tb tc : TD} {pos : Pos} {es : List Expr} {tr : TAD} {x : Str} {p : Pos} {sp : SpD}
theorem dCall_mono {ed : ED} {t : TAD} (ms : SpMono sp) (mt : MonA t) : MonD (dCall sp ed t) := fun e Q Q' h q => mt _ _ _ (fun w ds q => ms _ _ _ _ _ _ (fun w d q => h _ _ q) (fun _ _ _ q => q) q) q
theorem call_c {E : XK} {t : TAD} (ms : SpMono sp) (mt : MonA t) {σ : L2.St} {H : Hp} {Q : VK} (q : lift (am X B) (dCall sp (EdB X B E) t) σ H Q) : liftA (am X B) t σ H fun vs H1 => spOf X.K X.mg sp vs H1 Q E := by
  obtain ⟨e, F, s, q⟩ := q
  refine ⟨e, F, s, mt _ _ _ (fun w ds q vs F1 H1 st1 m1 r1 => ?_) q⟩
  exact ⟨B.S, F1, ds, w, st1.h, m1, st1.fm s.ms s.fm, r1, ms _ _ _ _ _ _ (fun w' d q v F' H' st m r => q v F' H' (st1.trans st) m r) (fun C fx w' q d F' H' st m xr => q d F' H' ((s.en.trans st1).trans st) m xr) q⟩
theorem px_call {CX : CXT} {k : Nat} {f : Addr} {fd : FuncData} {ps : List Str} {E : XK} (G : FnOk X.prog X.w X.K X.mg X.base CX k f fd ps (spOf X.K X.mg sp)) (ms : SpMono sp) (hr : Room k X.A) (hg : Gl X x) (hm : X.mg x = some (.ref f)) (hk : PySem.W.keepIn X.K (.ref f) = true) (hb : Binds X.K fd ps []) (hx : Passes CX X E)
    (ha : PXA X B (a :: es) tr) (hdb : (x == ("__debug__" : Str)) = false := by decide) (he : starEach (a :: es) X.env = (false, eval a X.env) :: starEach es X.env := by rfl) (hpl : (backTo pos (starEach es X.env)).any (·.1) = false := by rfl) :
    PX X B (.Call (.Name x p) (a :: es) [] pos) (dCall sp (EdB X B E) tr) := by
  refine ⟨dCall_mono ms ha.mono, pe_imp (pe_call G hr hg hm hk hb .nil hx ha.pa hdb he hpl) fun σ H Q q => ?_⟩
  have h := call_c ms ha.mono q
  unfold tCall
  simp only [List.append_nil]
  exact h

/-! ### statements -/
structure EndsD where
  nx : Ev → Prop
  rt : Nat → D → Prop
  bk : Ev → Prop
  ct : Ev → Prop
abbrev TSD := EndsD → Ev → Prop
structure EndsD.Le (D D' : EndsD) : Prop where
  nx : ∀ e, D.nx e → D'.nx e
  rt : ∀ w d, D.rt w d → D'.rt w d
  bk : ∀ e, D.bk e → D'.bk e
  ct : ∀ e, D.ct e → D'.ct e
theorem EndsD.Le.refl (D : EndsD) : D.Le D := ⟨fun _ h => h, fun _ _ h => h, fun _ h => h, fun _ h => h⟩
def MonS (t : TSD) : Prop := ∀ D D' e, D.Le D' → t D e → t D' e
/-- values that a loop around holds on to, with their data -/
inductive Pin where
  | o (a : Addr) (o : HO)
  | v (v : V) (d : D)
def PinOk (c : Cc) (F : Hp) : Pin → Prop
  | .o a o => F a = some o
  | .v v d => Rp c F v d
theorem PinOk.mono {c : Cc} {F G : Hp} (s : Sub F G) : ∀ {q : Pin}, PinOk c F q → PinOk c G q
  | .o a o, h => s a o h
  | .v v d, h => Rp.mono s h
abbrev Pins := List Pin
structure SimP (A : Am) (P : Pins) (e : Ev) (F : Hp) (σ : L2.St) (H : Hp) : Prop where
  sim : Sim A e F σ H
  pin : ∀ q ∈ P, PinOk A.c F q
theorem SimP.to {A : Am} {P : Pins} {e e' : Ev} {F F' H H' : Hp} {σ σ' : L2.St} (s : SimP A P e F σ H) (sb : Sub F F') (n : Sim A e' F' σ' H') : SimP A P e' F' σ' H' := ⟨n, fun q hq => (s.pin q hq).mono sb⟩
theorem SimP.step {A : Am} {P : Pins} {e : Ev} {F H F' H' : Hp} {σ : L2.St} {w : Nat} (s : SimP A P e F σ H) (st : Step A.c.S F H F' H') (m : MSt A.c.S w H') : SimP A P { e with w := w } F' σ H' := s.to st.f (s.sim.step st m)
def loE (A : Am) (P : Pins) (D : Ends) : EndsD where
  nx := fun e' => ∀ F' σ' H', SimP A P e' F' σ' H' → D.nx σ' H'
  rt := fun w d => ∀ v F' H', Step A.c.S A.F0 A.H0 F' H' → MSt A.c.S w H' → Rp A.c F' v d → D.rt v H'
  bk := fun e' => ∀ F' σ' H', SimP A P e' F' σ' H' → D.bk σ' H'
  ct := fun e' => ∀ F' σ' H', SimP A P e' F' σ' H' → D.ct σ' H'
def liftS (A : Am) (P : Pins) (t : TSD) : TS := fun D σ H => ∃ e F, SimP A P e F σ H ∧ t (loE A P D) e
structure PXS (X : Cx) (B : Bd) (st : Stmt) (t : TSD) : Prop where
  mono : MonS t
  ps : ∀ P, PS X st (liftS (am X B) P t)
structure PXSs (X : Cx) (B : Bd) (st : List Stmt) (t : TSD) : Prop where
  mono : MonS t
  ps : ∀ P, PSs X st (liftS (am X B) P t)
theorem ps_imp {st : Stmt} {t t' : TS} (h : PS X st t) (i : ∀ D σ H, t' D σ H → t D σ H) : PS X st t' := ⟨fun pins s σ H D I q => h.run pins s σ H D I (i D σ H q)⟩
theorem pss_imp {st : List Stmt} {t t' : TS} (h : PSs X st t) (i : ∀ D σ H, t' D σ H → t D σ H) : PSs X st t' := ⟨fun pins s σ H D I q => h.run pins s σ H D I (i D σ H q)⟩
variable {st : Stmt} {rest : List Stmt} {t u : TSD}
def dNext : TSD := fun D e => D.nx e
def dSeq (t u : TSD) : TSD := fun D e => t { D with nx := u D } e
theorem dSeq_mono (ht : MonS t) (hu : MonS u) : MonS (dSeq t u) := fun D D' e l q => ht { D with nx := u D } { D' with nx := u D' } e ⟨fun e q => hu D D' e l q, l.rt, l.bk, l.ct⟩ q
theorem pxs_nil : PXSs X B [] dNext := ⟨fun D D' e l q => l.nx _ q, fun P => pss_imp pss_nil fun D σ H q => by
  obtain ⟨e, F, s, q⟩ := q
  exact q F σ H s⟩
theorem pxs_cons (h1 : PXS X B st t) (h2 : PXSs X B rest u) : PXSs X B (st :: rest) (dSeq t u) := by
  refine ⟨dSeq_mono h1.mono h2.mono, fun P => pss_imp (pss_cons (h1.ps P) (h2.ps P)) fun D σ H q => ?_⟩
  obtain ⟨e, F, s, q⟩ := q
  exact ⟨e, F, s, h1.mono { loE (am X B) P D with nx := u (loE (am X B) P D) } _ e ⟨fun e' q F' σ' H' s' => ⟨e', F', s', q⟩, fun _ _ q => q, fun _ q => q, fun _ q => q⟩ q⟩
theorem pxs_one (h1 : PXS X B st t) : PXSs X B [st] t := ⟨h1.mono, fun P => pss_one (h1.ps P)⟩
theorem pxs_pass : PXS X B (.Pass pos) dNext := ⟨fun D D' e l q => l.nx _ q, fun P => ps_imp ps_pass fun D σ H q => by
  obtain ⟨e, F, s, q⟩ := q
  exact q F σ H s⟩
def dBreak : TSD := fun D e => D.bk e
def dCont : TSD := fun D e => D.ct e
theorem pxs_break : PXS X B (.Break pos) dBreak := ⟨fun D D' e l q => l.bk _ q, fun P => ps_imp ps_break fun D σ H q => by
  obtain ⟨e, F, s, q⟩ := q
  exact q F σ H s⟩
theorem pxs_continue : PXS X B (.Continue pos) dCont := ⟨fun D D' e l q => l.ct _ q, fun P => ps_imp ps_continue fun D σ H q => by
  obtain ⟨e, F, s, q⟩ := q
  exact q F σ H s⟩
def dIfS (c : TTD) (t u : TSD) : TSD := fun D e => c e fun w k => if k = true then t D { e with w := w } else u D { e with w := w }
theorem pxs_if {cd : Expr} {p q : List Stmt} {tt : TTD} (hc : PXT X B cd tt) (hp : PXSs X B p t) (hq : PXSs X B q u) : PXS X B (.If cd p q pos) (dIfS tt t u) := by
  refine ⟨fun D D' e l r => hc.mono _ _ _ (fun w k r => ?_) r, fun P => ps_imp (ps_if hc.pt (hp.ps P) (hq.ps P)) fun D σ H r => ?_⟩
  · cases k with
    | true => exact hp.mono _ _ _ l r
    | false => exact hq.mono _ _ _ l r
  · obtain ⟨e, F, s, r⟩ := r
    refine ⟨e, F, s.sim, hc.mono _ _ _ (fun w k r F1 H1 st1 m1 => ?_) r⟩
    cases k with
    | true => exact ⟨{ e with w := w }, F1, s.step st1 m1, r⟩
    | false => exact ⟨{ e with w := w }, F1, s.step st1 m1, r⟩
def dRet (t : TD) : TSD := fun D e => t e D.rt
theorem pxs_ret (h : PX X B a ta) : PXS X B (.Return (some a) pos) (dRet ta) := by
  refine ⟨fun D D' e l q => h.mono _ _ _ l.rt q, fun P => ps_imp (ps_ret h.pe) fun D σ H q => ?_⟩
  obtain ⟨e, F, s, q⟩ := q
  exact ⟨e, F, s.sim, h.mono _ _ _ (fun w d q v F' H' st m r => q v F' H' (s.sim.en.trans st) m r) q⟩
def dRetN : TSD := fun D e => D.rt e.w .none
theorem pxs_retN : PXS X B (.Return none pos) dRetN := ⟨fun D D' e l q => l.rt _ _ q, fun P => ps_imp ps_retN fun D σ H q => by
  obtain ⟨e, F, s, q⟩ := q
  exact q .non F H s.sim.en s.sim.ms .non⟩
def dDrop (t : TD) : TSD := fun D e => t e fun w _ => D.nx { e with w := w }
theorem pxs_expr (h : PX X B a ta) (hs : swapsWith a none pos.line X.env = pure false := by rfl) : PXS X B (.Expr a pos) (dDrop ta) := by
  refine ⟨fun D D' e l q => h.mono _ _ _ (fun w d q => l.nx _ q) q, fun P => ps_imp (ps_expr h.pe hs) fun D σ H q => ?_⟩
  obtain ⟨e, F, s, q⟩ := q
  exact ⟨e, F, s.sim, h.mono _ _ _ (fun w d q v F' H' st m r => q F' σ H' (s.step st m)) q⟩

/-! ### stores -/
theorem Sim.set {A : Am} {e : Ev} {F H : Hp} {σ : L2.St} (s : Sim A e F σ H) (i : Nat) {v : V} {d : D} (r : Rp A.c F v d) : Sim A { e with s := e.s.set i (.d d) } F (σ.set i (some v)) H := by
  refine ⟨s.fh, s.ms, s.fm, by simp [s.len], fun j z h => ?_, fun j k xs ys h1 h2 h3 => ?_, s.en, fun j xs p h1 h2 => ?_⟩
  · by_cases hj : j = i
    · subst hj
      have hl : j < e.s.length := by
        have := (List.getElem?_eq_some_iff.mp h).1
        simpa using this
      rw [List.getElem?_set_self hl] at h
      cases h
      exact ⟨v, by rw [List.getElem?_set_self (by rw [← s.len]; exact hl)], r⟩
    · rw [List.getElem?_set_ne (Ne.symm hj)] at h ⊢
      exact s.rel j z h
  · have nj : j ≠ i := fun z => by
      subst z
      rw [List.getElem?_set_self (by have := (List.getElem?_eq_some_iff.mp h1).1; simpa using this)] at h1
      cases h1
    have nk : k ≠ i := fun z => by
      subst z
      rw [List.getElem?_set_self (by have := (List.getElem?_eq_some_iff.mp h2).1; simpa using this)] at h2
      cases h2
    rw [List.getElem?_set_ne (Ne.symm nj)] at h1
    rw [List.getElem?_set_ne (Ne.symm nk)] at h2
    rw [List.getElem?_set_ne (Ne.symm nj), List.getElem?_set_ne (Ne.symm nk)] at h3
    exact s.sep j k xs ys h1 h2 h3
  · have nj : j ≠ i := fun z => by
      subst z
      rw [List.getElem?_set_self (by have := (List.getElem?_eq_some_iff.mp h1).1; simpa using this)] at h1
      cases h1
    rw [List.getElem?_set_ne (Ne.symm nj)] at h1 h2
    exact s.own j xs p h1 h2
def dSet (i : Nat) (t : TD) : TSD := fun D e => t e fun w d => D.nx ⟨e.s.set i (.d d), w⟩
theorem pxs_set (i : Nat) {y : Str} {py : Pos} (hN : X.N.Nodup) (hi : X.N[i]? = some y) (hl : Loc X.env.scope y) (h : PX X B a ta) (hs : swapsWith a (some (.Name y py)) pos.line X.env = pure false := by rfl)
    (hf : X.fn y = true ∨ X.env.scope.names.lookup y = some .local := by first | exact .inl rfl | exact .inr rfl | assumption) : PXS X B (.Assign [.Name y py] a pos) (dSet i ta) := by
  refine ⟨fun D D' e l q => h.mono _ _ _ (fun w d q => l.nx _ q) q, fun P => ps_imp (ps_set hN hi hl h.pe hs hf) fun D σ H q => ?_⟩
  obtain ⟨e, F, s, q⟩ := q
  exact ⟨e, F, s.sim, h.mono _ _ _ (fun w d q v F' H' st m r => q F' _ H' (s.to st.f ((s.sim.step st m).set i r))) q⟩

/-! ### own lists -/
/-- the expression makes a new list -/
def liftN (A : Am) (t : TAD) : TE := fun σ H Q => ∃ e F, Sim A e F σ H ∧ t e fun w ds => ∀ p vs F' H', Step A.c.S F H F' H' → MSt A.c.S w H' → H p = none → F' p = none → H' p = some (.lst vs) → RpAll A.c F' vs ds → Q (.ref p) H'
structure PXN (X : Cx) (B : Bd) (e : Expr) (t : TAD) : Prop where
  mono : MonA t
  pe : PE X e (liftN (am X B) t)
def dList (t : TAD) : TD := fun e Q => t e fun w ds => Q w (.list ds)
/-- an object becomes frozen -/
theorem Step.freeze {S : Msh} {F H F' H' : Hp} {p : Addr} {o : HO} (st : Step S F H F' H') (hp : H p = none) (fp : F' p = none) (h : H' p = some o) : Step S F H (upd F' p o) H' where
  f := st.f.trans (Sub.new fp)
  h := fun a u e => by
    by_cases z : a = p
    · subst z; rw [upd_same] at e; rw [h]; exact e
    · rw [upd_ne z] at e; exact st.h a u e
  k := st.k
  t := st.t
  n := fun a e => by
    by_cases z : a = p
    · subst z; exact .inr hp
    · rw [upd_ne z] at e; exact st.n a e
theorem px_ofN {t : TAD} (h : PXN X B a t) : PX X B a (dList t) := by
  refine ⟨fun e Q Q' i q => h.mono _ _ _ (fun w ds q => i _ _ q) q, pe_imp h.pe fun σ H Q q => ?_⟩
  obtain ⟨e, F, s, q⟩ := q
  exact ⟨e, F, s, h.mono _ _ _ (fun w ds q p vs F' H' st m hp fp h' r => q _ _ _ (st.freeze hp fp h') m (rp_newL fp r)) q⟩
def dLst' (t : TAD) : TAD := fun e Q => t e fun w xs => xs.length ≤ sizeLine ∧ Q w xs
theorem xn_lst (h : PXA X B es tr) : PXN X B (.List es pos) (dLst' tr) := by
  refine ⟨fun e Q Q' i q => h.mono _ _ _ (fun w xs q => ⟨q.1, i _ _ q.2⟩) q, pe_imp (pe_lst h.pa) fun σ H Q q => ?_⟩
  obtain ⟨e, F, s, q⟩ := q
  refine ⟨e, F, s, h.mono _ _ _ (fun w ds q vs F1 H1 st1 m1 r1 => ⟨by rw [r1.length]; exact q.1, fun p hp => ?_⟩) q⟩
  have hp0 : H p = none := by
    cases z : H p with
    | none => rfl
    | some o => exact absurd hp (st1.t p (by rw [z]; simp))
  exact q.2 p vs F1 _ (st1.trans (Step.newO st1.h _ hp)) (m1.sub (Sub.new hp)) hp0 (st1.h.no hp) upd_same r1
/-- list(xs) -/
theorem xn_list {p0 : Pos} {e : Expr} {te : TD} (hg : Gl X "list") (hm : X.mg "list" = none) (h : PX X B e te) (he : starEach [e] X.env = [(false, eval e X.env)] := by rfl) :
    PXN X B (.Call (.Name "list" p0) [e] [] pos) (fun e Q => te e fun w x => ∃ xs, (x = .list xs ∨ x = .tuple xs) ∧ Q w xs) := by
  refine ⟨fun e Q Q' i q => h.mono _ _ _ (fun w x ⟨xs, ex, q⟩ => ⟨xs, ex, i _ _ q⟩) q, pe_imp (pe_callTy call_list_of hg hm (by decide +kernel) (pa_cons h.pe pa_nil (by rw [he]; rfl)) (by decide) (by decide) (by rw [he]; rfl) rfl) fun σ H Q q => ?_⟩
  obtain ⟨e, F, s, q⟩ := q
  refine ⟨e, F, s, h.mono _ _ _ (fun w x q v F1 H1 st1 m1 r1 => ?_) q⟩
  obtain ⟨xs, ex, q⟩ := q
  have fin : ∀ vs, RpAll (am X B).c F1 vs xs → ∀ p, H1 p = none → Q (.ref p) (upd H1 p (.lst vs)) := fun vs r p hp => by
    have hp0 : H p = none := by
      cases z : H p with
      | none => rfl
      | some o => exact absurd hp (st1.t p (by rw [z]; simp))
    exact q p vs F1 _ (st1.trans (Step.newO st1.h _ hp)) (m1.sub (Sub.new hp)) hp0 (st1.h.no hp) upd_same r
  rcases ex with ex | ex
  · subst ex
    cases r1 with
    | lst h a => exact ⟨_, _, rfl, .inl (SqL.of (st1.h _ _ h)), fin _ a⟩
  · subst ex
    cases r1 with
    | tup h a => exact ⟨_, _, rfl, .inr (st1.h.t h), fin _ a⟩
theorem Sim.setOwn {A : Am} {e : Ev} {F H : Hp} {σ : L2.St} (s : Sim A e F σ H) (i : Nat) {p : Addr} {vs : List V} {ds : List D} (fp : F p = none) (np : ¬ A.c.S.mut p) (hp : H p = some (.lst vs)) (r : RpAll A.c F vs ds) (h0 : A.H0 p = none)
    (ne : ∀ j xs, e.s[j]? = some (.own xs) → j ≠ i → σ[j]? ≠ some (some (.ref p))) : Sim A { e with s := e.s.set i (.own ds) } F (σ.set i (some (.ref p))) H := by
  have li : ∀ {z : Sl}, (e.s.set i (.own ds))[i]? = some z → i < e.s.length := fun h => by
    have := (List.getElem?_eq_some_iff.mp h).1
    simpa using this
  refine ⟨s.fh, s.ms, s.fm, by simp [s.len], fun j z h => ?_, fun j k xs ys h1 h2 h3 => ?_, s.en, fun j xs q h1 h2 => ?_⟩
  · by_cases hj : j = i
    · subst hj
      have hl := li h
      rw [List.getElem?_set_self hl] at h
      cases h
      exact ⟨p, vs, by rw [List.getElem?_set_self (by rw [← s.len]; exact hl)], fp, np, hp, r⟩
    · rw [List.getElem?_set_ne (Ne.symm hj)] at h ⊢
      exact s.rel j z h
  · by_cases hj : j = i
    · by_cases hk : k = i
      · exact hj.trans hk.symm
      · subst hj
        have hl := li h1
        rw [List.getElem?_set_ne (Ne.symm hk)] at h2 h3
        rw [List.getElem?_set_self (by rw [← s.len]; exact hl)] at h3
        exact absurd h3.symm (ne k ys h2 hk)
    · by_cases hk : k = i
      · subst hk
        have hl := li h2
        rw [List.getElem?_set_ne (Ne.symm hj)] at h1 h3
        rw [List.getElem?_set_self (by rw [← s.len]; exact hl)] at h3
        exact absurd h3 (ne j xs h1 hj)
      · rw [List.getElem?_set_ne (Ne.symm hj)] at h1 h3
        rw [List.getElem?_set_ne (Ne.symm hk)] at h2 h3
        exact s.sep j k xs ys h1 h2 h3
  · by_cases hj : j = i
    · subst hj
      rw [List.getElem?_set_self (by rw [← s.len]; exact li h1)] at h2
      cases h2
      exact h0
    · rw [List.getElem?_set_ne (Ne.symm hj)] at h1 h2
      exact s.own j xs q h1 h2
theorem MSt.nmut {S : Msh} {w : Nat} {H : Hp} (m : MSt S w H) {p : Addr} (h : H p = none) : ¬ S.mut p := fun z => m.there z h
def dSetO (i : Nat) (t : TAD) : TSD := fun D e => t e fun w ds => D.nx ⟨e.s.set i (.own ds), w⟩
/-- x = [..], kept as the def's own -/
theorem pxs_setO (i : Nat) {y : Str} {py : Pos} {t : TAD} (hN : X.N.Nodup) (hi : X.N[i]? = some y) (hl : Loc X.env.scope y) (h : PXN X B a t) (hs : swapsWith a (some (.Name y py)) pos.line X.env = pure false := by rfl)
    (hf : X.fn y = true ∨ X.env.scope.names.lookup y = some .local := by first | exact .inl rfl | exact .inr rfl | assumption) : PXS X B (.Assign [.Name y py] a pos) (dSetO i t) := by
  refine ⟨fun D D' e l q => h.mono _ _ _ (fun w d q => l.nx _ q) q, fun P => ps_imp (ps_set hN hi hl h.pe hs hf) fun D σ H q => ?_⟩
  obtain ⟨e, F, s, q⟩ := q
  refine ⟨e, F, s.sim, h.mono _ _ _ (fun w ds q p vs F' H' st m hp fp h' r => ?_) q⟩
  have h0 : B.H0 p = none := by
    cases z : B.H0 p with
    | none => rfl
    | some o => exact absurd hp (s.sim.en.t p (by show B.H0 p ≠ none; rw [z]; simp))
  refine q F' _ H' (s.to st.f ((s.sim.step st m).setOwn i fp (s.sim.ms.nmut hp) h' r h0 fun j xs h1 _ z => ?_))
  obtain ⟨p1, vs1, o1, _, _, hp1, _⟩ := s.sim.rel j _ h1
  rw [z] at o1
  cases o1
  rw [hp] at hp1
  cases hp1
/-- an own list changes -/
theorem Sim.change {A : Am} {e : Ev} {F H : Hp} {σ : L2.St} (s : Sim A e F σ H) (i : Nat) {p : Addr} {xs : List D} {vs vs' : List V} {ds : List D} (hi : e.s[i]? = some (.own xs)) (hs : σ[i]? = some (some (.ref p))) (fp : F p = none) (np : ¬ A.c.S.mut p) (hp : H p = some (.lst vs))
    (r : RpAll A.c F vs' ds) : Sim A { e with s := e.s.set i (.own ds) } F σ (upd H p (.lst vs')) := by
  have li : i < e.s.length := (List.getElem?_eq_some_iff.mp hi).1
  have h0 := s.own i xs p hi hs
  refine ⟨fun a o q => ?_, s.ms.but hp np (fun a o na q => by rw [upd_ne na]; exact q), s.fm, by simp [s.len], fun j z h => ?_, fun j k as bs h1 h2 h3 => ?_, ⟨s.en.f, fun a o q => ?_, fun a o q n => ?_, fun a q => ?_, s.en.n⟩, fun j as q h1 h2 => ?_⟩
  · have na : a ≠ p := fun z => by rw [z, fp] at q; cases q
    rw [upd_ne na]; exact s.fh a o q
  · by_cases hj : j = i
    · subst hj
      rw [List.getElem?_set_self li] at h
      cases h
      exact ⟨p, vs', hs, fp, np, upd_same, r⟩
    · rw [List.getElem?_set_ne (Ne.symm hj)] at h
      have q := s.rel j z h
      cases z with
      | no => trivial
      | d x => exact q
      | own ys =>
        obtain ⟨p1, vs1, o1, f1, n1, g1, r1⟩ := q
        have ne : p1 ≠ p := fun z => by
          subst z
          exact hj (s.sep j i ys xs h hi (by rw [o1, hs]))
        exact ⟨p1, vs1, o1, f1, n1, by rw [upd_ne ne]; exact g1, r1⟩
  · have back : ∀ {j : Nat} {as : List D}, (e.s.set i (.own ds))[j]? = some (.own as) → ∃ as', e.s[j]? = some (.own as') := fun {j as} h => by
      by_cases hj : j = i
      · subst hj; exact ⟨xs, hi⟩
      · rw [List.getElem?_set_ne (Ne.symm hj)] at h; exact ⟨as, h⟩
    obtain ⟨as', g1⟩ := back h1
    obtain ⟨bs', g2⟩ := back h2
    exact s.sep j k as' bs' g1 g2 h3
  · have na : a ≠ p := fun z => by rw [z, fp] at q; cases q
    rw [upd_ne na]; exact s.en.h a o q
  · have na : a ≠ p := fun z => by rw [z, h0] at q; cases q
    rw [upd_ne na]; exact s.en.k a o q n
  · by_cases na : a = p
    · rw [na, upd_same]; simp
    · rw [upd_ne na]; exact s.en.t a q
  · by_cases hj : j = i
    · subst hj; rw [hs] at h2; cases h2; exact h0
    · rw [List.getElem?_set_ne (Ne.symm hj)] at h1; exact s.own j as q h1 h2
/-- x.append(e) -/
def dApp (i : Nat) (t : TD) : TSD := fun D e => ∃ xs, e.s[i]? = some (.own xs) ∧ t e fun w d => xs.length < sizeLine ∧ D.nx ⟨e.s.set i (.own (xs ++ [d])), w⟩
theorem pxs_app (i : Nat) {y : Str} {p1 apos cpos : Pos} (hv : PE X (.Name y p1) (tVar i)) (h : PX X B a ta) (hs : swapsWith (.Call (.Attribute (.Name y p1) "append" apos) [a] [] cpos) none pos.line X.env = pure false := by rfl)
    (hbase : attributeBase (.Name y p1) "append" X.env (eval (.Name y p1) X.env) = eval (.Name y p1) X.env := by rfl)
    (hfew : ((backTo cpos (starEach (a :: []) X.env)).all (fun x => !x.1) && (backToKw cpos (keywordEach [] X.env)).all (fun x => x.1.isSome)
      && decide ((a :: ([] : List Expr)).length + ([] : List Keyword).length + (if ([] : List Keyword).isEmpty then 0 else 1) < 30)) = true := by rfl)
    (hline : (apos.endLine == cpos.line) = true := by rfl) (hst : starEach (a :: []) X.env = (false, eval a X.env) :: starEach [] X.env := by rfl) (hplain : (backTo cpos (starEach [] X.env)).any (·.1) = false := by rfl) :
    PXS X B (.Expr (.Call (.Attribute (.Name y p1) "append" apos) [a] [] cpos) pos) (dApp i ta) := by
  refine ⟨fun D D' e l ⟨xs, h1, q⟩ => ⟨xs, h1, h.mono _ _ _ (fun w d ⟨h2, q⟩ => ⟨h2, l.nx _ q⟩) q⟩,
    fun P => ps_imp (ps_expr (pe_bm PySem.F.plainAttrs_list PySem.F.slot_list_append PySem.F.type_list_append mt_append hv (pa_cons h.pe pa_nil hst) hbase hfew hline hst hplain) hs) fun D σ H q => ?_⟩
  obtain ⟨e, F, s, xs, h1, q⟩ := q
  obtain ⟨p, vs, o1, fp, np, hp, r⟩ := s.sim.rel i _ h1
  refine ⟨.ref p, o1, .inl ⟨rfl, _, SqL.of hp⟩, e, F, s.sim, h.mono _ _ _ (fun w d ⟨h2, q⟩ v F1 H1 st1 m1 r1 => ?_) q⟩
  have s1 := s.step st1 m1
  obtain ⟨p', vs', o1', fp', _, hp', r'⟩ := s1.sim.rel i _ h1
  rw [o1] at o1'
  cases o1'
  refine ⟨p, vs', v, rfl, rfl, hp', by rw [r'.length]; exact h2, q F1 σ _ ?_⟩
  exact s1.to (Sub.refl _) (s1.sim.change i h1 o1 fp' np hp' (r'.append (.cons r1 .nil)))
/-- x[i] = e, x the def's own -/
def dSetIx (i : Nat) (tb ta : TD) : TSD := fun D e => ∃ xs, e.s[i]? = some (.own xs) ∧ ta e fun w d => tb { e with w := w } fun w1 y => ∃ k j, y = .int k ∧ ixN xs.length k = some j ∧ D.nx ⟨e.s.set i (.own (xs.set j d)), w1⟩
theorem pxs_setIx (i : Nat) {y : Str} {p1 p2 : Pos} (hv : PE X (.Name y p1) (tVar i)) (hb : PX X B b tb) (h : PX X B a ta) (hs : swapsWithSole [.Subscript (.Name y p1) b p2] a pos.line X.env = pure false := by rfl) (hw : swappedStores [.Subscript (.Name y p1) b p2] a X.env = pure none := by rfl)
    (h1 : (assignEach [.Subscript (.Name y p1) b p2] X.env).map (·.2) = [assign (.Subscript (.Name y p1) b p2) X.env] := by rfl) 
    (ha : ∀ v, assign (.Subscript (.Name y p1) b p2) X.env v = (do
      let ov ← holding [v] (eval (.Name y p1) X.env)
      let iv ← holding [v, ov] (eval b X.env)
      standAt p2
      holding [v, ov, iv] (setItem ov iv v)
      release [v, ov, iv] []) := by intro _; rfl) :
    PXS X B (.Assign [.Subscript (.Name y p1) b p2] a pos) (dSetIx i tb ta) := by
  refine ⟨fun D D' e l ⟨xs, h1, q⟩ => ⟨xs, h1, h.mono _ _ _ (fun w d q => hb.mono _ _ _ (fun w1 y ⟨k, j, e1, e2, q⟩ => ⟨k, j, e1, e2, l.nx _ q⟩) q) q⟩,
    fun P => ps_imp (ps_asg h.pe (pg_sub hv hb.pe set_list ha) hs hw h1) fun D σ H q => ?_⟩
  obtain ⟨e, F, s, xs, h1, q⟩ := q
  refine ⟨e, F, s.sim, h.mono _ _ _ (fun w d q v F1 H1 st1 m1 r1 => ?_) q⟩
  have s1 := s.step st1 m1
  obtain ⟨p, vs, o1, fp, np, hp, r⟩ := s1.sim.rel i _ h1
  refine ⟨.ref p, o1, { e with w := w }, F1, s1.sim, hb.mono _ _ _ (fun w1 y ⟨k, j, e1, e2, q⟩ u F2 H2 st2 m2 r2 => ?_) q⟩
  subst e1
  cases r2
  have s2 := s1.step st2 m2
  obtain ⟨p', vs', o1', fp', _, hp', r'⟩ := s2.sim.rel i _ h1
  rw [o1] at o1'
  cases o1'
  refine ⟨p, vs', k, j, rfl, rfl, hp', by rw [r'.length]; exact e2, q F2 σ _ ?_⟩
  exact s2.to (Sub.refl _) (s2.sim.change i h1 o1 fp' np hp' (RpAll.set (r1.mono st2.f) j r'))
/-- from here on the list is as it is -/
def frz (i : Nat) (e : Ev) : Ev := match e.s[i]? with
  | some (.own xs) => { e with s := e.s.set i (.d (.list xs)) }
  | _ => e
theorem Sim.frz {A : Am} {e : Ev} {F H : Hp} {σ : L2.St} (s : Sim A e F σ H) (i : Nat) : ∃ F', Sub F F' ∧ Sim A (frz i e) F' σ H := by
  unfold PL.frz
  split
  · rename_i xs h1
    obtain ⟨p, vs, o1, fp, np, hp, r⟩ := s.rel i _ h1
    have h0 := s.own i xs p h1 o1
    have li : i < e.s.length := (List.getElem?_eq_some_iff.mp h1).1
    have fh : Sub (upd F p (.lst vs)) H := fun a u q => by
      by_cases z : a = p
      · subst z; rw [upd_same] at q; rw [hp]; exact q
      · rw [upd_ne z] at q; exact s.fh a u q
    have back : ∀ {j : Nat} {as : List D}, (e.s.set i (.d (.list xs)))[j]? = some (.own as) → j ≠ i ∧ e.s[j]? = some (.own as) := fun {j as} h => by
      by_cases hj : j = i
      · subst hj; rw [List.getElem?_set_self li] at h; cases h
      · rw [List.getElem?_set_ne (Ne.symm hj)] at h; exact ⟨hj, h⟩
    refine ⟨upd F p (.lst vs), Sub.new fp, fh, s.ms, fun a ha => ?_, by simp [s.len], fun j z h => ?_, fun j k as bs g1 g2 g3 => s.sep j k as bs (back g1).2 (back g2).2 g3, ⟨s.en.f.trans (Sub.new fp), fh, s.en.k, s.en.t, fun a q => ?_⟩, fun j as q g1 g2 => s.own j as q (back g1).2 g2⟩
    · have na : a ≠ p := fun z => np (z ▸ ha)
      rw [upd_ne na]; exact s.fm a ha
    · by_cases hj : j = i
      · subst hj
        rw [List.getElem?_set_self li] at h
        cases h
        exact ⟨.ref p, o1, .lst upd_same (r.mono (Sub.new fp))⟩
      · rw [List.getElem?_set_ne (Ne.symm hj)] at h
        have q := s.rel j z h
        cases z with
        | no => trivial
        | d x =>
          obtain ⟨v, e1, r1⟩ := q
          exact ⟨v, e1, r1.mono (Sub.new fp)⟩
        | own ys =>
          obtain ⟨p1, vs1, o2, f1, n1, g1, r1⟩ := q
          have ne : p1 ≠ p := fun z => by
            subst z
            exact hj (s.sep j i ys xs h h1 (by rw [o2, o1]))
          exact ⟨p1, vs1, o2, by rw [upd_ne ne]; exact f1, n1, g1, r1.mono (Sub.new fp)⟩
    · by_cases z : a = p
      · exact .inr (by rw [z]; exact h0)
      · rw [upd_ne z] at q; exact s.en.n a q
  · exact ⟨F, Sub.refl F, s⟩
/-- a statement behind such a word -/
def dFrz (i : Nat) (t : TSD) : TSD := fun D e => t D (frz i e)
theorem pxs_frz (i : Nat) (h : PXS X B st t) : PXS X B st (dFrz i t) := ⟨fun D D' e l q => h.mono _ _ _ l q, fun P => ps_imp (h.ps P) fun D σ H q => by
  obtain ⟨e, F, s, q⟩ := q
  obtain ⟨F', sb, s'⟩ := s.sim.frz i
  exact ⟨frz i e, F', s.to sb s', q⟩⟩
theorem pxss_frz (i : Nat) {sts : List Stmt} (h : PXSs X B sts t) : PXSs X B sts (dFrz i t) := ⟨fun D D' e l q => h.mono _ _ _ l q, fun P => pss_imp (h.ps P) fun D σ H q => by
  obtain ⟨e, F, s, q⟩ := q
  obtain ⟨F', sb, s'⟩ := s.sim.frz i
  exact ⟨frz i e, F', s.to sb s', q⟩⟩
/-- an expression that looks at an own list and gives a flat value -/
def dPeek (i : Nat) (t : TD) : TD := fun e Q => t (frz i e) fun w d => flatD d = true ∧ Q w d
theorem Rp.ofFlat {c : Cc} {F G : Hp} {v : V} {d : D} (r : Rp c F v d) (h : flatD d = true) : Rp c G v d := by
  cases r <;> first
    | (simp [flatD] at h; done)
    | constructor
theorem px_peek (i : Nat) (h : PX X B a ta) : PX X B a (dPeek i ta) := by
  refine ⟨fun e Q Q' l q => h.mono _ _ _ (fun w d ⟨f, q⟩ => ⟨f, l _ _ q⟩) q, pe_imp h.pe fun σ H Q q => ?_⟩
  obtain ⟨e, F, s, q⟩ := q
  obtain ⟨F', sb, s'⟩ := s.frz i
  refine ⟨frz i e, F', s', h.mono _ _ _ (fun w d ⟨f, q⟩ v F1 H1 st1 m1 r1 => ?_) q⟩
  exact q v F H1 ⟨Sub.refl F, (sb.trans st1.f).trans st1.h, st1.k, st1.t, fun a q => .inl q⟩ m1 (r1.ofFlat f)
def dPeekT (i : Nat) (t : TTD) : TTD := fun e Q => t (frz i e) Q
theorem pxt_peek (i : Nat) {tt : TTD} (h : PXT X B a tt) : PXT X B a (dPeekT i tt) := by
  refine ⟨fun e Q Q' l q => h.mono _ _ _ l q, pt_imp h.pt fun σ H Q q => ?_⟩
  obtain ⟨e, F, s, q⟩ := q
  obtain ⟨F', sb, s'⟩ := s.frz i
  refine ⟨frz i e, F', s', h.mono _ _ _ (fun w k q F1 H1 st1 m1 => ?_) q⟩
  exact q F H1 ⟨Sub.refl F, (sb.trans st1.f).trans st1.h, st1.k, st1.t, fun a q => .inl q⟩ m1
end
end PL
end
section
set_option Elab.async false
set_option linter.all false
set_option maxRecDepth 100000
set_option maxHeartbeats 4000000
set_option autoImplicit false
/-! P5: targets, what is walked, for, while, comprehensions. -/
namespace PL
open PySem PySem.Spec PyProof.Rows L2

/-! ### slots forgotten -/
theorem wipe_get {σ : L2.St} {j : Nat} : ∀ {vs : List Nat}, (wipe σ vs)[j]? = if j ∈ vs ∧ j < σ.length then some none else σ[j]?
  | [] => by simp [wipe]
  | v :: vs => by
    have ih := wipe_get (σ := σ) (j := j) (vs := vs)
    unfold wipe
    by_cases h : j = v
    · subst h
      by_cases hl : j < σ.length
      · rw [List.getElem?_set_self (by rw [wipe_length]; exact hl), if_pos ⟨List.mem_cons_self, hl⟩]
      · rw [List.getElem?_eq_none (by rw [List.length_set, wipe_length]; omega), if_neg (fun z => hl z.2), List.getElem?_eq_none (by omega)]
    · rw [List.getElem?_set_ne (Ne.symm h), ih]
      by_cases hm : j ∈ vs
      · simp [hm]
      · simp [hm, h]
def Agree (sl : List Nat) (σ σ' : L2.St) : Prop := σ'.length = σ.length ∧ ∀ j, j ∉ sl → σ'[j]? = σ[j]?
theorem Agree.refl (sl : List Nat) (σ : L2.St) : Agree sl σ σ := ⟨rfl, fun _ _ => rfl⟩
theorem Agree.trans {sl sl' : List Nat} {σ σ' σ'' : L2.St} (a : Agree sl σ σ') (b : Agree sl' σ' σ'') : Agree (sl ++ sl') σ σ'' := ⟨b.1.trans a.1, fun j h => by
  rw [List.mem_append, not_or] at h
  rw [b.2 j h.2, a.2 j h.1]⟩
theorem Agree.wipe {sl : List Nat} {σ σ' : L2.St} (a : Agree sl σ σ') {vs : List Nat} (h : ∀ i ∈ sl, i ∈ vs) : L2.wipe σ' vs = L2.wipe σ vs := by
  refine List.ext_getElem? fun j => ?_
  rw [wipe_get, wipe_get, a.1]
  by_cases hj : j ∈ vs ∧ j < σ.length
  · rw [if_pos hj, if_pos hj]
  · rw [if_neg hj, if_neg hj]
    by_cases hs : j ∈ sl
    · have : ¬ j < σ.length := fun z => hj ⟨h j hs, z⟩
      rw [List.getElem?_eq_none (by rw [a.1]; omega), List.getElem?_eq_none (by omega)]
    · exact a.2 j hs
theorem wipe_wipe {σ : L2.St} {vs : List Nat} : L2.wipe (L2.wipe σ vs) vs = L2.wipe σ vs := by
  refine List.ext_getElem? fun j => ?_
  rw [wipe_get, wipe_get, wipe_length]
  by_cases hj : j ∈ vs ∧ j < σ.length
  · rw [if_pos hj, if_pos hj]
  · rw [if_neg hj, if_neg hj]
def wipeD (s : List Sl) : List Nat → List Sl
  | [] => s
  | v :: vs => (wipeD s vs).set v .no
theorem wipeD_len (s : List Sl) : ∀ vs, (wipeD s vs).length = s.length
  | [] => rfl
  | v :: vs => by unfold wipeD; rw [List.length_set, wipeD_len s vs]
theorem wipeD_get {s : List Sl} {j : Nat} : ∀ {vs : List Nat}, (wipeD s vs)[j]? = if j ∈ vs ∧ j < s.length then some .no else s[j]?
  | [] => by simp [wipeD]
  | v :: vs => by
    have ih := wipeD_get (s := s) (j := j) (vs := vs)
    unfold wipeD
    by_cases h : j = v
    · subst h
      by_cases hl : j < s.length
      · rw [List.getElem?_set_self (by rw [wipeD_len]; exact hl), if_pos ⟨List.mem_cons_self, hl⟩]
      · rw [List.getElem?_eq_none (by rw [List.length_set, wipeD_len]; omega), if_neg (fun z => hl z.2), List.getElem?_eq_none (by omega)]
    · rw [List.getElem?_set_ne (Ne.symm h), ih]
      by_cases hm : j ∈ vs
      · simp [hm]
      · simp [hm, h]
theorem Sim.wipe {A : Am} {e : Ev} {F H : Hp} {σ : L2.St} (s : Sim A e F σ H) (vs : List Nat) : Sim A { e with s := wipeD e.s vs } F (L2.wipe σ vs) H := by
  have own : ∀ {j : Nat} {xs : List D}, (wipeD e.s vs)[j]? = some (.own xs) → e.s[j]? = some (.own xs) ∧ (L2.wipe σ vs)[j]? = σ[j]? := fun {j xs} h => by
    rw [wipeD_get] at h
    by_cases hj : j ∈ vs ∧ j < e.s.length
    · rw [if_pos hj] at h; cases h
    · rw [if_neg hj] at h
      refine ⟨h, ?_⟩
      rw [wipe_get, if_neg (by rw [← s.len]; exact hj)]
  refine ⟨s.fh, s.ms, s.fm, by rw [wipeD_len, wipe_length]; exact s.len, fun j z h => ?_, fun j k xs ys h1 h2 h3 => ?_, s.en, fun j xs p h1 h2 => ?_⟩
  · have h : (wipeD e.s vs)[j]? = some z := h
    rw [wipeD_get] at h
    by_cases hj : j ∈ vs ∧ j < e.s.length
    · rw [if_pos hj] at h
      cases h
      trivial
    · rw [if_neg hj] at h
      rw [wipe_get, if_neg (by rw [← s.len]; exact hj)]
      exact s.rel j z h
  · obtain ⟨a1, b1⟩ := own h1
    obtain ⟨a2, b2⟩ := own h2
    rw [b1, b2] at h3
    exact s.sep j k xs ys a1 a2 h3
  · obtain ⟨a1, b1⟩ := own h1
    rw [b1] at h2
    exact s.own j xs p a1 h2

/-! ### targets -/
abbrev TGD := D → Ev → (Ev → Prop) → Prop
abbrev TGDs := List D → Ev → (Ev → Prop) → Prop
def liftG (A : Am) (g : TGD) (sl : List Nat) : TG := fun v σ H Q => ∃ e F d, Sim A e F σ H ∧ Rp A.c F v d ∧ g d e fun e' => ∀ σ', Agree sl σ σ' → Sim A e' F σ' H → Q σ' H
def liftGs (A : Am) (g : TGDs) (sl : List Nat) : TGs := fun vs σ H Q => ∃ e F ds, Sim A e F σ H ∧ RpAll A.c F vs ds ∧ g ds e fun e' => ∀ σ', Agree sl σ σ' → Sim A e' F σ' H → Q σ' H
theorem pg_imp {X : Cx} {e : Expr} {t t' : TG} (h : PG X e t) (i : ∀ v σ H Q, t' v σ H Q → t v σ H Q) : PG X e t' := ⟨fun pins s σ H v u Q I r q => h.run pins s σ H v u Q I r (i v σ H Q q)⟩
theorem pgs_imp {X : Cx} {e : List Expr} {t t' : TGs} (h : PGs X e t) (i : ∀ v σ H Q, t' v σ H Q → t v σ H Q) : PGs X e t' := ⟨fun pins s σ H v u Q I r q => h.run pins s σ H v u Q I r (i v σ H Q q)⟩
structure PXG (X : Cx) (B : Bd) (tg : Expr) (g : TGD) (sl : List Nat) : Prop where
  mono : ∀ d e Q Q', (∀ e, Q e → Q' e) → g d e Q → g d e Q'
  pg : PG X tg (liftG (am X B) g sl)
structure PXGs (X : Cx) (B : Bd) (tg : List Expr) (g : TGDs) (sl : List Nat) : Prop where
  mono : ∀ d e Q Q', (∀ e, Q e → Q' e) → g d e Q → g d e Q'
  pg : PGs X tg (liftGs (am X B) g sl)
section
variable {X : Cx} {B : Bd} {a b c : Expr} {ta tb tc : TD} {pos : Pos} {es : List Expr} {tr : TAD} {x : Str} {p : Pos} {t u : TSD}
def gNm (i : Nat) : TGD := fun d e Q => Q { e with s := e.s.set i (.d d) }
theorem pxg_name (i : Nat) (hN : X.N.Nodup) (hi : X.N[i]? = some x) (hx : Loc X.env.scope x) (hf : X.fn x = true ∨ X.env.scope.names.lookup x = some .local := by first | exact .inl rfl | exact .inr rfl | assumption) : PXG X B (.Name x pos) (gNm i) [i] := by
  refine ⟨fun d e Q Q' h q => h _ q, pg_imp (pg_name hN hi hx hf) fun v σ H Q q => ?_⟩
  obtain ⟨e, F, d, s, r, q⟩ := q
  exact q _ ⟨by simp, fun j h => by rw [List.getElem?_set_ne]; exact fun z => h (by simp [z])⟩ (s.set i r)
def gNl : TGDs := fun ds e Q => ds = [] ∧ Q e
def gCn (g : TGD) (gs : TGDs) : TGDs := fun ds e Q => ∃ d r, ds = d :: r ∧ g d e fun e' => gs r e' Q
theorem pxgs_nil : PXGs X B [] gNl [] := by
  refine ⟨fun d e Q Q' h q => ⟨q.1, h _ q.2⟩, pgs_imp pgs_nil fun v σ H Q q => ?_⟩
  obtain ⟨e, F, ds, s, r, e1, q⟩ := q
  subst e1
  cases r
  exact ⟨rfl, q σ (Agree.refl _ _) s⟩
theorem pxgs_cons {g : TGD} {gs : TGDs} {sl sl' : List Nat} (h1 : PXG X B a g sl) (h2 : PXGs X B es gs sl') (hs : (assignEach (a :: es) X.env).map (·.2) = assign a X.env :: (assignEach es X.env).map (·.2) := by rfl) : PXGs X B (a :: es) (gCn g gs) (sl ++ sl') := by
  refine ⟨fun d e Q Q' h ⟨z, r, e1, q⟩ => ⟨z, r, e1, h1.mono _ _ _ _ (fun e' q => h2.mono _ _ _ _ h q) q⟩, pgs_imp (pgs_cons h1.pg h2.pg hs) fun v σ H Q q => ?_⟩
  obtain ⟨e, F, ds, s, r, d, dr, e1, q⟩ := q
  subst e1
  cases r with
  | cons r rr =>
    refine ⟨_, _, rfl, e, F, d, s, r, h1.mono _ _ _ _ (fun e' q σ' ag s' => ?_) q⟩
    exact ⟨e', F, dr, s', rr, h2.mono _ _ _ _ (fun e2 q σ2 ag2 s2 => q σ2 (ag.trans ag2) s2) q⟩
def gTp (n : Nat) (g : TGDs) : TGD := fun d e Q => ∃ ds, d = .tuple ds ∧ ds.length = n ∧ g ds e Q
theorem pxg_tup {g : TGDs} {sl : List Nat} {k n : Nat} (hc : X.calm = true) (h : PXGs X B es g sl) (hn : (assignEach es X.env).length = n := by rfl) (hst : (assignEach es X.env).findIdx? (·.1) = none := by rfl) : PXG X B (.Tuple es k pos) (gTp n g) sl := by
  refine ⟨fun d e Q Q' i ⟨ds, e1, e2, q⟩ => ⟨ds, e1, e2, h.mono _ _ _ _ i q⟩, pg_imp (pg_tup hc h.pg hn hst) fun v σ H Q q => ?_⟩
  obtain ⟨e, F, d, s, r, ds, e1, e2, q⟩ := q
  subst e1
  cases r with
  | tup h1 a1 => exact ⟨_, _, rfl, s.fh.t h1, by rw [a1.length]; exact e2, e, F, ds, s, a1, q⟩
/-- target = e -/
def dAsg (t : TD) (g : TGD) : TSD := fun D e => t e fun w d => g d { e with w := w } D.nx
theorem pxs_asg {tg : Expr} {g : TGD} {sl : List Nat} (h : PX X B a ta) (hg : PXG X B tg g sl) (hs : swapsWithSole [tg] a pos.line X.env = pure false := by rfl) (hw : swappedStores [tg] a X.env = pure none := by rfl)
    (h1 : (assignEach [tg] X.env).map (·.2) = [assign tg X.env] := by rfl) : PXS X B (.Assign [tg] a pos) (dAsg ta g) := by
  refine ⟨fun D D' e l q => h.mono _ _ _ (fun w d q => hg.mono _ _ _ _ l.nx q) q, fun P => ps_imp (ps_asg h.pe hg.pg hs hw h1) fun D σ H q => ?_⟩
  obtain ⟨e, F, s, q⟩ := q
  refine ⟨e, F, s.sim, h.mono _ _ _ (fun w d q v F1 H1 st1 m1 r1 => ?_) q⟩
  refine ⟨{ e with w := w }, F1, d, s.sim.step st1 m1, r1, hg.mono _ _ _ _ (fun e' q σ' _ s' => ?_) q⟩
  exact q F1 σ' H1 (s.to st1.f s')
/-- x, y = e1, e2 -/
def dPar (i j : Nat) (t : TAD) : TSD := fun D e => t e fun w ds => ∃ d1 d2, ds = [d1, d2] ∧ D.nx ⟨(e.s.set i (.d d1)).set j (.d d2), w⟩
theorem pxs_par (i j : Nat) {y : Str} {px py pt : Pos} {kt k2 : Nat} {pt2 : Pos} (hc : X.calm = true) (hN : X.N.Nodup) (hi : X.N[i]? = some x) (hj : X.N[j]? = some y) (hij : i ≠ j)
    (hx : X.env.scope.names.lookup x = some .local) (hy : X.env.scope.names.lookup y = some .local) (ha : PXA X B [a, b] tr)
    (hw : swappedStores [.Tuple [.Name x px, .Name y py] kt pt] (.Tuple [a, b] k2 pt2) X.env = pure (some [x, y]))
    (hs : swapsWithSole [.Tuple [.Name x px, .Name y py] kt pt] (.Tuple [a, b] k2 pt2) pos.line X.env = pure false := by rfl) :
    PXS X B (.Assign [.Tuple [.Name x px, .Name y py] kt pt] (.Tuple [a, b] k2 pt2) pos) (dPar i j tr) := by
  refine ⟨fun D D' e l q => ha.mono _ _ _ (fun w ds ⟨d1, d2, e1, q⟩ => ⟨d1, d2, e1, l.nx _ q⟩) q, fun P => ps_imp (ps_par hc hN hi hj hij hx hy ha.pa hw hs) fun D σ H q => ?_⟩
  obtain ⟨e, F, s, q⟩ := q
  refine ⟨e, F, s.sim, ha.mono _ _ _ (fun w ds ⟨d1, d2, e1, q⟩ vs F1 H1 st1 m1 r1 => ?_) q⟩
  subst e1
  obtain ⟨v, u, e2, r2, r3⟩ := r1.two
  subst e2
  exact ⟨v, u, rfl, q F1 _ H1 (s.to st1.f (((s.sim.step st1 m1).set i r2).set j r3))⟩

/-! ### what is walked -/
structure WOk (c : Cc) (P : Pins) (ds : List D) (G : Hp → Prop) (Y : Nat → Hp → V → Hp → Prop) : Prop where
  g : ∀ F H, Sub F H → (∀ q ∈ P, PinOk c F q) → G H
  y : ∀ i F H v H', Sub F H → (∀ q ∈ P, PinOk c F q) → Y i H v H' → ∀ d, ds[i]? = some d → ∃ F', Step c.S F H F' H' ∧ Sub H H' ∧ Rp c F' v d
structure WOkc (c : Cc) (F1 H1 : Hp) (ds : List D) (G : Hp → Prop) (Y : Nat → Hp → V → Hp → Prop) : Prop where
  g : ∀ F H, Step c.S F1 H1 F H → G H
  y : ∀ i F H v H', Step c.S F1 H1 F H → Y i H v H' → ∀ d, ds[i]? = some d → ∃ F', Step c.S F H F' H' ∧ Sub H H' ∧ Rp c F' v d
def liftI (A : Am) (t : TAD) : TI := fun σ H R => ∃ e F, Sim A e F σ H ∧ t e fun w ds => ∀ F' H', Step A.c.S F H F' H' → MSt A.c.S w H' → ∀ J G Y P, Walk J ds.length G Y → WOk A.c P ds G Y → (∀ q ∈ P, PinOk A.c F' q) → R J H'
def liftIc (A : Am) (t : TAD) : TI := fun σ H R => ∃ e F, Sim A e F σ H ∧ t e fun w ds => ∀ F' H', Step A.c.S F H F' H' → MSt A.c.S w H' → ∀ J G Y, Walk J ds.length G Y → WOkc A.c F' H' ds G Y → R J H'
theorem pi_imp {tg e : Expr} {t t' : TI} (h : PI X tg e t) (i : ∀ σ H R, t' σ H R → t σ H R) : PI X tg e t' := ⟨fun pins s σ H R I q => h.run pins s σ H R I (i σ H R q)⟩
theorem pi_case {tg e : Expr} {t' : TI} (i : ∀ σ H R, t' σ H R → ∃ t : TI, PI X tg e t ∧ t σ H R) : PI X tg e t' := ⟨fun pins s σ H R I q => by
  obtain ⟨t, h, q'⟩ := i σ H R q
  exact h.run pins s σ H R I q'⟩
structure PXI (X : Cx) (B : Bd) (tg e : Expr) (t : TAD) : Prop where
  mono : MonA t
  pi : PI X tg e (liftI (am X B) t)
structure PXIc (X : Cx) (B : Bd) (tg e : Expr) (t : TAD) : Prop where
  mono : MonA t
  pi : PI X tg e (liftIc (am X B) t)
theorem WOk.toC {c : Cc} {P : Pins} {ds : List D} {G : Hp → Prop} {Y : Nat → Hp → V → Hp → Prop} (w : WOk c P ds G Y) {F1 H1 : Hp} (hp : ∀ q ∈ P, PinOk c F1 q) : WOkc c F1 H1 ds G Y :=
  ⟨fun F H st => w.g F H st.h fun q hq => (hp q hq).mono st.f, fun i F H v H' st => w.y i F H v H' st.h fun q hq => (hp q hq).mono st.f⟩
theorem PXI.toC {tg e : Expr} {t : TAD} (h : PXI X B tg e t) : PXIc X B tg e t := ⟨h.mono, pi_imp h.pi fun σ H R q => by
  obtain ⟨e, F, s, q⟩ := q
  exact ⟨e, F, s, h.mono _ _ _ (fun w ds q F' H' st m J G Y P wk ok hp => q F' H' st m J G Y wk (ok.toC hp)) q⟩⟩
/-- the pins of a list's items -/
def pinsOf : List V → List D → Pins
  | v :: vs, d :: ds => .v v d :: pinsOf vs ds
  | _, _ => []
theorem pinsOf_ok {c : Cc} {F : Hp} : ∀ {vs : List V} {ds : List D}, RpAll c F vs ds → ∀ q ∈ pinsOf vs ds, PinOk c F q
  | _, _, .nil, q, h => by cases h
  | _, _, .cons h r, q, hq => by
    rcases List.mem_cons.mp hq with e | hq
    · subst e; exact h
    · exact pinsOf_ok r q hq
theorem pinsOf_at {c : Cc} {F : Hp} : ∀ {vs : List V} {ds : List D}, vs.length = ds.length → (∀ q ∈ pinsOf vs ds, PinOk c F q) → RpAll c F vs ds
  | [], [], _, _ => .nil
  | v :: vs, d :: ds, e, h => .cons (h (.v v d) List.mem_cons_self) (pinsOf_at (by simpa using e) fun q hq => h q (List.mem_cons_of_mem _ hq))
  | [], _ :: _, e, _ => by simp at e
  | _ :: _, [], e, _ => by simp at e
theorem RpAll.at {c : Cc} {F : Hp} {vs : List V} {ds : List D} (r : RpAll c F vs ds) {i : Nat} {v : V} {d : D} (hv : vs[i]? = some v) (hd : ds[i]? = some d) : Rp c F v d := by
  obtain ⟨u, e, r⟩ := r.get hd
  rw [hv] at e
  cases e
  exact r
/-- pins that keep a tuple readable -/
def tupPins {K : PySem.W.Frag} {F : Hp} {a : Addr} {xs : List V} (_ : SqT K F a xs) : Pins := match F a with
  | some o => [.o a o]
  | none => []
theorem tupPins_ok {c : Cc} {F : Hp} {a : Addr} {xs : List V} (h : SqT c.K F a xs) : ∀ q ∈ tupPins h, PinOk c F q := fun q hq => by
  unfold tupPins at hq
  split at hq
  · rename_i o e
    have : q = .o a o := by simpa using hq
    subst this
    exact e
  · cases hq
theorem tupPins_at {c : Cc} {F G : Hp} {a : Addr} {xs : List V} (h : SqT c.K F a xs) (hp : ∀ q ∈ tupPins h, PinOk c G q) : SqT c.K G a xs := by
  unfold tupPins at hp
  rcases id h with (z | ⟨o, z⟩) | z
  · rw [z] at hp
    exact .inl (.inl (hp (.o a _) (by simp)))
  · rw [z] at hp
    exact .inl (.inr ⟨o, hp (.o a _) (by simp)⟩)
  · exact .inr z
/-- over a list or a tuple -/
def dSeqOf (t : TD) : TAD := fun e Q => t e fun w x => ∃ xs, (x = .list xs ∨ x = .tuple xs) ∧ Q w xs
theorem pxi_seq {tg : Expr} (h : PX X B a ta) : PXI X B tg a (dSeqOf ta) := by
  refine ⟨fun e Q Q' i q => h.mono _ _ _ (fun w x ⟨xs, ex, q⟩ => ⟨xs, ex, i _ _ q⟩) q, ?_⟩
  have key : PI X tg a (fun σ H R => lift (am X B) ta σ H fun v H1 => (∃ p, v = .ref p ∧ (∃ xs, SqL X.K H1 p xs) ∧ R (Itl X.K p) H1) ∨ ∃ p, v = .ref p ∧ (∃ xs, SqT X.K H1 p xs) ∧ R (Itt X.K p) H1) := by
    refine ⟨fun pins s σ H R I q => ?_⟩
    refine thn (h.pe.run pins s σ H _ I q) fun v s1 ⟨x, H1, I1, r1, q1⟩ => ?_
    rcases q1 with ⟨p, e, ⟨xs, hq⟩, q1⟩ | ⟨p, e, ⟨xs, hq⟩, q1⟩
    · subst e
      cases r1
      obtain ⟨its, rv, pl, hz⟩ := I1.list hq
      refine wpAny_pyIter_list pl.isList ?_
      refine ⟨s1.heap.objs.size, [s1.heap.objs.size], _, _, H1, rfl, I1.kept (t' := s1.toks) fun b o e => Heap.get?_push_of_some _ e, turn_list p _, ⟨_, Heap.get?_push_size _ rfl, rfl, rfl⟩, fun b hb => ?_, q1⟩
      have e : b = s1.heap.objs.size := by simpa using hb
      subst e
      exact I1.fpOk (Nat.le_refl _) (I1.hok.fresh (Nat.le_refl _))
    · subst e
      cases r1
      obtain ⟨its, rv, pl, hz⟩ := I1.tuple hq
      refine wpAny_pyIter_tuple (show s1.heap.IsTuple p its.toArray from pl) ?_
      refine ⟨s1.heap.objs.size, [s1.heap.objs.size], _, _, H1, rfl, I1.kept (t' := s1.toks) fun b o e => Heap.get?_push_of_some _ e, turn_tuple p _, ⟨_, Heap.get?_push_size _ rfl, rfl, rfl⟩, fun b hb => ?_, q1⟩
      have e : b = s1.heap.objs.size := by simpa using hb
      subst e
      exact I1.fpOk (Nat.le_refl _) (I1.hok.fresh (Nat.le_refl _))
  refine pi_imp key fun σ H R q => ?_
  obtain ⟨e, F, s, q⟩ := q
  refine ⟨e, F, s, h.mono _ _ _ (fun w x ⟨xs, ex, q⟩ v F1 H1 st1 m1 r1 => ?_) q⟩
  rcases ex with ex | ex
  · subst ex
    cases r1 with
    | @lst p vs _ h1 a1 =>
      refine .inl ⟨p, rfl, ⟨vs, SqL.of (st1.h _ _ h1)⟩, q F1 H1 st1 m1 _ _ _ (.o p (.lst vs) :: pinsOf vs xs) (by rw [← a1.length]; exact walk_list) ⟨fun F' H' sb hp => SqL.of (sb _ _ (hp (.o p (.lst vs)) List.mem_cons_self)), fun i F' H' v H'' sb hp y d hd => ?_⟩ fun q hq => ?_⟩
      · obtain ⟨e1, y⟩ := y
        subst e1
        exact ⟨F', Step.refl sb, Sub.refl _, (pinsOf_at a1.length fun q hq => hp q (List.mem_cons_of_mem _ hq)).at y hd⟩
      · rcases List.mem_cons.mp hq with z | z
        · subst z; exact h1
        · exact pinsOf_ok a1 q z
  · subst ex
    cases r1 with
    | @tup p vs _ h1 a1 =>
      refine .inr ⟨p, rfl, ⟨vs, st1.h.t h1⟩, q F1 H1 st1 m1 _ _ _ (tupPins h1 ++ pinsOf vs xs) (by rw [← a1.length]; exact walk_tup) ⟨fun F' H' sb hp => sb.t (tupPins_at (c := cc X B.S) h1 fun q hq => hp q (List.mem_append_left _ hq)), fun i F' H' v H'' sb hp y d hd => ?_⟩ fun q hq => ?_⟩
      · obtain ⟨e1, y⟩ := y
        subst e1
        exact ⟨F', Step.refl sb, Sub.refl _, (pinsOf_at a1.length fun q hq => hp q (List.mem_append_right _ hq)).at y hd⟩
      · rcases List.mem_append.mp hq with z | z
        · exact tupPins_ok (c := cc X B.S) h1 q z
        · exact pinsOf_ok a1 q z
end
end PL
end
section
set_option Elab.async false
set_option linter.all false
set_option maxRecDepth 100000
set_option maxHeartbeats 4000000
set_option autoImplicit false
/-! P6: ranges, enumerate, zip; for, while, comprehensions. -/
namespace PL
open PySem PySem.Spec PyProof.Rows L2 RZ
section
variable {X : Cx} {B : Bd} {a b c : Expr} {ta tb tc : TD} {pos : Pos} {es : List Expr} {tr : TAD} {x : Str} {p : Pos} {t u : TSD}
def rangeD (lo : Int) (n : Nat) : List D := (List.range n).map fun (i : Nat) => PyData.int (lo + (i : Int))
theorem rangeD_get {lo : Int} {n i : Nat} {d : D} (h : (rangeD lo n)[i]? = some d) : d = .int (lo + i) := by
  unfold rangeD at h
  rw [List.getElem?_map] at h
  obtain ⟨j, h1, h2⟩ := Option.map_eq_some_iff.mp h
  have h3 := (List.getElem?_eq_some_iff.mp h1)
  obtain ⟨hl, h4⟩ := h3
  rw [List.getElem_range] at h4
  subst h4
  exact h2.symm
theorem rangeD_len {lo : Int} {n : Nat} : (rangeD lo n).length = n := by simp [rangeD]
theorem wok_range {c : Cc} {lo : Int} {n : Nat} : WOk c [] (rangeD lo n) (fun _ => True) (YFn fun i => .int (lo + i)) :=
  ⟨fun _ _ _ _ => trivial, fun i F H v H' sb _ y d hd => by
    obtain ⟨e1, e2⟩ := y
    subst e1 e2
    rw [rangeD_get hd]
    exact ⟨F, Step.refl sb, Sub.refl _, .int _⟩⟩
def dRange1 (t : TAD) : TAD := fun e Q => t e fun w ds => ∃ j : Int, ds = [.int j] ∧ (-(2 ^ 62) ≤ j ∧ j < 2 ^ 62) ∧ Q w (rangeD 0 j.toNat)
def dRange2 (t : TAD) : TAD := fun e Q => t e fun w ds => ∃ i j : Int, ds = [.int i, .int j] ∧ (-(2 ^ 62) ≤ i ∧ i < 2 ^ 62 ∧ -(2 ^ 62) ≤ j ∧ j < 2 ^ 62) ∧ Q w (rangeD i (j - i).toNat)
theorem pxi_range1 {tg : Expr} (hg : Gl X "range") (hm : X.mg "range" = none) (h : PXA X B [a] tr) (hs : starEach [a] X.env = [(false, eval a X.env)] := by rfl) : PXI X B tg (.Call (.Name "range" p) [a] [] pos) (dRange1 tr) := by
  refine ⟨fun e Q Q' i q => h.mono _ _ _ (fun w x ⟨j, ex, b, q⟩ => ⟨j, ex, b, i _ _ q⟩) q, pi_imp (pi_range1 hg hm h.pa hs) fun σ H R q => ?_⟩
  obtain ⟨e, F, s, q⟩ := q
  refine ⟨e, F, s, h.mono _ _ _ (fun w x ⟨j, ex, b, q⟩ v F1 H1 st1 m1 r1 => ?_) q⟩
  subst ex
  obtain ⟨v, ev, r2⟩ := r1.one
  subst ev
  cases r2
  exact ⟨j, rfl, b.1, b.2, q F1 H1 st1 m1 _ _ _ [] (by rw [rangeD_len]; exact walk_range) wok_range (fun q hq => by cases hq)⟩
theorem pxi_range2 {tg : Expr} (hg : Gl X "range") (hm : X.mg "range" = none) (h : PXA X B [a, b] tr) (hs : starEach [a, b] X.env = [(false, eval a X.env), (false, eval b X.env)] := by rfl) (hs2 : starEach [b] X.env = [(false, eval b X.env)] := by rfl) :
    PXI X B tg (.Call (.Name "range" p) [a, b] [] pos) (dRange2 tr) := by
  refine ⟨fun e Q Q' i q => h.mono _ _ _ (fun w x ⟨j, k, ex, b, q⟩ => ⟨j, k, ex, b, i _ _ q⟩) q, pi_imp (pi_range2 hg hm h.pa hs hs2) fun σ H R q => ?_⟩
  obtain ⟨e, F, s, q⟩ := q
  refine ⟨e, F, s, h.mono _ _ _ (fun w x ⟨j, k, ex, b, q⟩ v F1 H1 st1 m1 r1 => ?_) q⟩
  subst ex
  obtain ⟨v, u, ev, r2, r3⟩ := r1.two
  subst ev
  cases r2; cases r3
  exact ⟨j, k, rfl, b, q F1 H1 st1 m1 _ _ _ [] (by rw [rangeD_len]; exact walk_range) wok_range (fun q hq => by cases hq)⟩
/-- new pairs -/
theorem wok_pair {c : Cc} {P : Pins} {G : Hp → Prop} {ds es : List D} {f g : Nat → Option V} (hG : ∀ F H, Sub F H → (∀ q ∈ P, PinOk c F q) → G H)
    (hf : ∀ F i v d, (∀ q ∈ P, PinOk c F q) → f i = some v → ds[i]? = some d → Rp c F v d) (hg : ∀ F i v d, (∀ q ∈ P, PinOk c F q) → g i = some v → es[i]? = some d → Rp c F v d) {zs : List D}
    (hz : ∀ (i : Nat) (z : D), zs[i]? = some z → ∃ d e, ds[i]? = some d ∧ es[i]? = some e ∧ z = PyData.tuple [d, e]) : WOk c P zs G (YPair f g) := by
  refine ⟨hG, fun i F H v H' sb hp y z hd => ?_⟩
  obtain ⟨T, u1, u2, e1, hT, e2, h1, h2⟩ := y
  obtain ⟨d, e, h3, h4, h5⟩ := hz i z hd
  subst e1 e2 h5
  have fT : F T = none := sb.no hT
  exact ⟨_, Step.new sb _ hT, Sub.new hT, rp_newT fT (.cons (hf F i u1 d hp h1 h3) (.cons (hg F i u2 e hp h2 h4) .nil))⟩
def pairD (xs ys : List D) : List D := List.zipWith (fun x y => PyData.tuple [x, y]) xs ys
theorem pairD_get {ds es : List D} {i : Nat} {z : D} (h : (pairD ds es)[i]? = some z) : ∃ d e, ds[i]? = some d ∧ es[i]? = some e ∧ z = PyData.tuple [d, e] := by
  unfold pairD at h
  rw [List.getElem?_zipWith] at h
  split at h
  · rename_i d e h1 h2
    exact ⟨d, e, h1, h2, (Option.some.inj h).symm⟩
  · cases h
theorem pairD_len {ds es : List D} : (pairD ds es).length = min ds.length es.length := by simp [pairD]
def dEnum (t : TAD) : TAD := fun e Q => t e fun w ds => ∃ xs, ds = [.list xs] ∧ Q w (pairD (rangeD 0 xs.length) xs)
theorem pxi_enum {elts : List Expr} {kk : Nat} {tpos : Pos} (hg : Gl X "enumerate") (hm : X.mg "enumerate" = none) (h : PXA X B [a] tr) (hs : starEach [a] X.env = [(false, eval a X.env)] := by rfl) : PXI X B (.Tuple elts kk tpos) (.Call (.Name "enumerate" p) [a] [] pos) (dEnum tr) := by
  refine ⟨fun e Q Q' i q => h.mono _ _ _ (fun w x ⟨j, ex, q⟩ => ⟨j, ex, i _ _ q⟩) q, pi_imp (pi_enum hg hm h.pa hs) fun σ H R q => ?_⟩
  obtain ⟨e, F, s, q⟩ := q
  refine ⟨e, F, s, h.mono _ _ _ (fun w x ⟨xs, ex, q⟩ v F1 H1 st1 m1 r1 => ?_) q⟩
  subst ex
  obtain ⟨v, ev, r2⟩ := r1.one
  subst ev
  cases r2 with
  | @lst p vs _ h1 a1 =>
    refine ⟨p, vs, rfl, SqL.of (st1.h _ _ h1), q F1 H1 st1 m1 _ _ _ (.o p (.lst vs) :: pinsOf vs xs) (by rw [pairD_len, rangeD_len, Nat.min_self, ← a1.length]; exact walk_enum) (wok_pair (ds := rangeD 0 xs.length) (es := xs) (fun F' H' sb hp => SqL.of (sb _ _ (hp (.o p (.lst vs)) List.mem_cons_self)))
      (fun F i v d hp h1 h2 => ?_) (fun F i v d hp h1 h2 => (pinsOf_at a1.length fun q hq => hp q (List.mem_cons_of_mem _ hq)).at h1 h2) fun i z hz => pairD_get hz) fun q hq => ?_⟩
    · rw [rangeD_get h2]
      cases h1
      have : (0 : Int) + (i : Int) = (i : Int) := Int.zero_add _
      rw [this]
      exact .int _
    · rcases List.mem_cons.mp hq with z | z
      · subst z; exact h1
      · exact pinsOf_ok a1 q z
theorem walk_zipT {K : PySem.W.Frag} {a b : Addr} {xs ys : List V} {n : Nat} (hn : n = min xs.length ys.length) : Walk (ItzT K a b) n (fun H => SqT K H a xs ∧ SqT K H b ys) (YPair (fun i => xs[i]?) (fun i => ys[i]?)) := by
  subst hn
  refine ⟨fun i _ hi q => ?_, fun _ q => ⟨xs, ys, q.1, q.2, by omega⟩, fun i H v H' _ q y => ?_⟩
  · have h1 : i < xs.length := by omega
    have h2 : i < ys.length := by omega
    exact ⟨xs, ys, xs[i], ys[i], q.1, q.2, by simp [h1], by simp [h2]⟩
  · obtain ⟨T, x, z, h1, h2, h3, h4, h5⟩ := y
    exact ⟨T, x, z, h1, h2, h3, h4 xs q.1, h5 ys q.2⟩
/-- zip of two lists, of two tuples -/
def dZip (t : TAD) : TAD := fun e Q => t e fun w ds => ∃ xs ys, (ds = [.list xs, .list ys] ∨ ds = [.tuple xs, .tuple ys]) ∧ Q w (pairD xs ys)
theorem pxi_zip {elts : List Expr} {kk : Nat} {tpos : Pos} (hg : Gl X "zip") (hm : X.mg "zip" = none) (h : PXA X B [a, b] tr) (hs : starEach [a, b] X.env = (false, eval a X.env) :: starEach [b] X.env := by rfl)
    (hpl : (backTo pos (starEach [b] X.env)).any (·.1) = false := by rfl) : PXI X B (.Tuple elts kk tpos) (.Call (.Name "zip" p) [a, b] [] pos) (dZip tr) := by
  refine ⟨fun e Q Q' i q => h.mono _ _ _ (fun w x ⟨j, k, ex, q⟩ => ⟨j, k, ex, i _ _ q⟩) q, pi_imp (pi_zipA hg hm h.pa hs hpl) fun σ H R q => ?_⟩
  obtain ⟨e, F, s, q⟩ := q
  refine ⟨e, F, s, h.mono _ _ _ (fun w x ⟨xs, ys, ex, q⟩ v F1 H1 st1 m1 r1 => ?_) q⟩
  rcases ex with ex | ex
  · subst ex
    obtain ⟨v, u, ev, r2, r3⟩ := r1.two
    subst ev
    cases r2 with
    | @lst p vs _ h1 a1 =>
      cases r3 with
      | @lst p' vs' _ h1' a1' =>
        refine ⟨p, p', vs, vs', rfl, .inl ⟨SqL.of (st1.h _ _ h1), SqL.of (st1.h _ _ h1'), q F1 H1 st1 m1 _ _ _ (.o p (.lst vs) :: .o p' (.lst vs') :: (pinsOf vs xs ++ pinsOf vs' ys)) (walk_zip (by rw [pairD_len, a1.length, a1'.length])) (wok_pair (ds := xs) (es := ys) (fun F' H' sb hp =>
            ⟨SqL.of (sb _ _ (hp (.o p (.lst vs)) List.mem_cons_self)), SqL.of (sb _ _ (hp (.o p' (.lst vs')) (List.mem_cons_of_mem _ List.mem_cons_self)))⟩)
          (fun F i v d hp h1 h2 => (pinsOf_at a1.length fun q hq => hp q (List.mem_cons_of_mem _ (List.mem_cons_of_mem _ (List.mem_append_left _ hq)))).at h1 h2) (fun F i v d hp h1 h2 => (pinsOf_at a1'.length fun q hq => hp q (List.mem_cons_of_mem _ (List.mem_cons_of_mem _ (List.mem_append_right _ hq)))).at h1 h2) fun i z hz => pairD_get hz) fun q hq => ?_⟩⟩
        rcases List.mem_cons.mp hq with z | hq
        · subst z; exact h1
        rcases List.mem_cons.mp hq with z | hq
        · subst z; exact h1'
        rcases List.mem_append.mp hq with z | z
        · exact pinsOf_ok a1 q z
        · exact pinsOf_ok a1' q z
  · subst ex
    obtain ⟨v, u, ev, r2, r3⟩ := r1.two
    subst ev
    cases r2 with
    | @tup p vs _ h1 a1 =>
      cases r3 with
      | @tup p' vs' _ h1' a1' =>
        refine ⟨p, p', vs, vs', rfl, .inr ⟨st1.h.t h1, st1.h.t h1', q F1 H1 st1 m1 _ _ _ ((tupPins h1 ++ tupPins h1') ++ (pinsOf vs xs ++ pinsOf vs' ys)) (walk_zipT (by rw [pairD_len, a1.length, a1'.length])) (wok_pair (ds := xs) (es := ys) (fun F' H' sb hp =>
            ⟨sb.t (tupPins_at (c := cc X B.S) h1 fun q hq => hp q (List.mem_append_left _ (List.mem_append_left _ hq))), sb.t (tupPins_at (c := cc X B.S) h1' fun q hq => hp q (List.mem_append_left _ (List.mem_append_right _ hq)))⟩)
          (fun F i v d hp h1 h2 => (pinsOf_at a1.length fun q hq => hp q (List.mem_append_right _ (List.mem_append_left _ hq))).at h1 h2) (fun F i v d hp h1 h2 => (pinsOf_at a1'.length fun q hq => hp q (List.mem_append_right _ (List.mem_append_right _ hq))).at h1 h2) fun i z hz => pairD_get hz) fun q hq => ?_⟩⟩
        rcases List.mem_append.mp hq with hq | hq
        · rcases List.mem_append.mp hq with z | z
          · exact tupPins_ok (c := cc X B.S) h1 q z
          · exact tupPins_ok (c := cc X B.S) h1' q z
        · rcases List.mem_append.mp hq with z | z
          · exact pinsOf_ok a1 q z
          · exact pinsOf_ok a1' q z
/-- an own list walked in a comprehension -/
def dOwnOf (i : Nat) : TAD := fun e Q => ∃ xs, e.s[i]? = some (.own xs) ∧ Q e.w xs
theorem pxic_own (i : Nat) {tg : Expr} {p1 : Pos} (h : PE X (.Name x p1) (tVar i)) : PXIc X B tg (.Name x p1) (dOwnOf i) := by
  refine ⟨fun e Q Q' i q => ⟨q.choose, q.choose_spec.1, i _ _ q.choose_spec.2⟩, pi_imp (pi_list h) fun σ H R q => ?_⟩
  obtain ⟨e, F, s, xs, e1, q⟩ := q
  obtain ⟨p, vs, o1, fp, np, hp, r⟩ := s.rel i _ e1
  refine ⟨.ref p, o1, p, rfl, ⟨vs, SqL.of hp⟩, q F H (Step.refl s.fh) s.ms _ _ _ (by rw [← r.length]; exact walk_list) ⟨fun F' H' st => SqL.of (st.k _ _ hp np), fun i F' H' v H'' st y d hd => ?_⟩⟩
  obtain ⟨e1, y⟩ := y
  subst e1
  exact ⟨F', Step.refl st.h, Sub.refl _, (r.at y hd).mono st.f⟩

/-! ### for -/
def dForL (g : TGD) (tb : TSD) (D : EndsD) : List PyData → Ev → Prop
  | [], e => D.nx e
  | x :: xs, e => g x e fun e1 => tb { nx := dForL g tb D xs, ct := dForL g tb D xs, rt := D.rt, bk := D.nx } e1
def dFor (ti : TAD) (g : TGD) (tb : TSD) : TSD := fun D e => ti e fun w ds => dForL g tb D ds { e with w := w }
theorem dForL_mono {g : TGD} {tb : TSD} (hg : ∀ d e Q Q', (∀ e, Q e → Q' e) → g d e Q → g d e Q') (hb : MonS tb) {D D' : EndsD} (l : D.Le D') : ∀ ds e, dForL g tb D ds e → dForL g tb D' ds e
  | [], e, q => l.nx _ q
  | x :: xs, e, q => hg _ _ _ _ (fun e1 q => hb { nx := dForL g tb D xs, ct := dForL g tb D xs, rt := D.rt, bk := D.nx } { nx := dForL g tb D' xs, ct := dForL g tb D' xs, rt := D'.rt, bk := D'.nx } e1 ⟨fun e q => dForL_mono hg hb l xs e q, l.rt, l.nx, fun e q => dForL_mono hg hb l xs e q⟩ q) q
theorem pxs_for {tg iter : Expr} {body : List Stmt} {ti : TAD} {g : TGD} {sl : List Nat} {tb : TSD} (hp : PassesOwn (model X.prog X.w) X.A X.env X.xe) (hc : X.calm = true) (hi : PXI X B tg iter ti) (hg : PXG X B tg g sl) (hb : PXSs X B body tb)
    (hs : ∀ x, foldedSetIterable iter X.env x = pure x := by intro _; rfl) : PXS X B (.For tg iter body [] pos) (dFor ti g tb) := by
  refine ⟨fun D D' e l q => hi.mono _ _ _ (fun w ds q => dForL_mono hg.mono hb.mono l ds _ q) q, fun P => ?_⟩
  have hb' : PSs X body (fun D σ H => ∃ P, liftS (am X B) P tb D σ H) := ⟨fun pins s σ H D I ⟨P, q⟩ => (hb.ps P).run pins s σ H D I q⟩
  refine ps_imp (ps_for hp hc hi.pi hg.pg hb' hs) fun D σ H q => ?_
  obtain ⟨e, F, s, q⟩ := q
  refine ⟨e, F, s.sim, hi.mono _ _ _ (fun w ds q F1 H1 st1 m1 J G Y P1 wk ok hP1 => ?_) q⟩
  refine for_it (D := D) (g := liftG (am X B) g sl) (tb := fun D σ H => ∃ P, liftS (am X B) P tb D σ H) wk (fun i σ' H' => ∃ e' F', SimP (am X B) (P1 ++ P) e' F' σ' H' ∧ dForL g tb (loE (am X B) P D) (ds.drop i) e') ⟨{ e with w := w }, F1, ⟨s.sim.step st1 m1, fun q hq => ?_⟩, q⟩ (fun i σ' H' _ ⟨e', F', s', _⟩ => ok.g F' H' s'.sim.fh fun q hq => s'.pin q (List.mem_append_left _ hq)) (fun i x σ' H' H'' hi ⟨e', F', s', q⟩ y => ?_) (fun σ' H' ⟨e', F', s', q⟩ => ?_)
  · rcases List.mem_append.mp hq with z | z
    · exact hP1 q z
    · exact (s.pin q z).mono st1.f
  · have hd : ds[i]? = some ds[i] := List.getElem?_eq_getElem hi
    rw [List.drop_eq_getElem_cons hi] at q
    obtain ⟨F2, st2, sb2, r2⟩ := ok.y i F' H' x H'' s'.sim.fh (fun q hq => s'.pin q (List.mem_append_left _ hq)) y _ hd
    have s2 := s'.step (w := e'.w) st2 (s'.sim.ms.sub sb2)
    refine ⟨e', F2, ds[i], s2.sim, r2, hg.mono _ _ _ _ (fun e1 q σ1 _ s1 => ?_) q⟩
    refine ⟨P1 ++ P, e1, F2, s2.to (Sub.refl _) s1, hb.mono { nx := dForL g tb (loE (am X B) P D) (ds.drop (i + 1)), ct := dForL g tb (loE (am X B) P D) (ds.drop (i + 1)), rt := (loE (am X B) P D).rt, bk := (loE (am X B) P D).nx } _ e1 ⟨fun e3 q F3 σ3 H3 s3 => ⟨e3, F3, s3, q⟩, fun w d q => q, fun e3 q F3 σ3 H3 s3 => ?_, fun e3 q F3 σ3 H3 s3 => ⟨e3, F3, s3, q⟩⟩ q⟩
    exact q F3 σ3 H3 ⟨s3.sim, fun q hq => s3.pin q (List.mem_append_right _ hq)⟩
  · rw [List.drop_length] at q
    exact q F' σ' H' ⟨s'.sim, fun q hq => s'.pin q (List.mem_append_right _ hq)⟩

/-! ### while -/
def dWhileN (c : TTD) (tb : TSD) (D : EndsD) : Nat → Ev → Prop
  | 0, _ => False
  | n + 1, e => c e fun w k => if k = true then tb { nx := dWhileN c tb D n, ct := dWhileN c tb D n, rt := D.rt, bk := D.nx } { e with w := w } else D.nx { e with w := w }
def dWhile (c : TTD) (tb : TSD) : TSD := fun D e => ∃ n, dWhileN c tb D n e
theorem dWhileN_mono {c : TTD} {tb : TSD} (hc : MonT c) (hb : MonS tb) {D D' : EndsD} (l : D.Le D') : ∀ n e, dWhileN c tb D n e → dWhileN c tb D' n e
  | 0, _, q => q
  | n + 1, e, q => hc _ _ _ (fun w k q => by
    cases k with
    | true =>
      rw [if_pos rfl] at q ⊢
      exact hb { nx := dWhileN c tb D n, ct := dWhileN c tb D n, rt := D.rt, bk := D.nx } { nx := dWhileN c tb D' n, ct := dWhileN c tb D' n, rt := D'.rt, bk := D'.nx } _ ⟨fun e q => dWhileN_mono hc hb l n e q, l.rt, l.nx, fun e q => dWhileN_mono hc hb l n e q⟩ q
    | false =>
      rw [if_neg Bool.false_ne_true] at q ⊢
      exact l.nx _ q) q
theorem pxs_while {cd : Expr} {body : List Stmt} {tt : TTD} {tb : TSD} (hp : PassesOwn (model X.prog X.w) X.A X.env X.xe) (hc : PXT X B cd tt) (hb : PXSs X B body tb) : PXS X B (.While cd body [] pos) (dWhile tt tb) := by
  refine ⟨fun D D' e l ⟨n, q⟩ => ⟨n, dWhileN_mono hc.mono hb.mono l n e q⟩, fun P => ps_imp (ps_while hp hc.pt (hb.ps P)) fun D σ H q => ?_⟩
  obtain ⟨e, F, s, n, q⟩ := q
  refine ⟨fun m σ H => ∃ e F, SimP (am X B) P e F σ H ∧ dWhileN tt tb (loE (am X B) P D) m e, ⟨n, e, F, s, q⟩, fun m σ' H' ⟨e', F', s', q⟩ => ?_⟩
  cases m with
  | zero => exact q.elim
  | succ m =>
    refine ⟨e', F', s'.sim, hc.mono _ _ _ (fun w k q F1 H1 st1 m1 => ?_) q⟩
    cases k with
    | true =>
      rw [if_pos rfl] at q ⊢
      refine ⟨fun σ2 H2 => ∃ e2 F2, SimP (am X B) P e2 F2 σ2 H2 ∧ dWhileN tt tb (loE (am X B) P D) m e2, fun σ2 H2 h => ⟨m, Nat.lt_succ_self m, h⟩, _, F1, s'.step st1 m1, hb.mono { nx := dWhileN tt tb (loE (am X B) P D) m, ct := dWhileN tt tb (loE (am X B) P D) m, rt := (loE (am X B) P D).rt, bk := (loE (am X B) P D).nx } _ _ ⟨fun e3 q F3 σ3 H3 s3 => ⟨e3, F3, s3, q⟩, fun w d q => q, fun e3 q => q, fun e3 q F3 σ3 H3 s3 => ⟨e3, F3, s3, q⟩⟩ q⟩
    | false =>
      rw [if_neg Bool.false_ne_true] at q ⊢
      exact q F1 σ' H1 (s'.step st1 m1)

/-! ### comprehensions -/
structure PXTs (X : Cx) (B : Bd) (ifs : List Expr) (t : TTD) : Prop where
  mono : MonT t
  pts : PTs X ifs (liftT (am X B) t)
def dYes : TTD := fun e Q => Q e.w true
theorem pxts_nil : PXTs X B [] dYes := ⟨fun e Q Q' h q => h _ _ q, ⟨fun pins s σ H Q I q => by
  obtain ⟨e, F, sm, q⟩ := q
  exact (pts_nil (X := X)).run pins s σ H Q I (q F H (Step.refl sm.fh) sm.ms)⟩⟩
theorem pxts_one {tt : TTD} (h : PXT X B a tt) : PXTs X B [a] tt := ⟨h.mono, pts_one h.pt⟩
def dLcL (g : TGD) (tt : TTD) (te : TD) (s0 : List Sl) (Q : Nat → List D → Prop) : List D → Nat → List D → Prop
  | [], w, acc => Q w acc
  | x :: xs, w, acc => acc.length < sizeLine ∧ g x ⟨s0, w⟩ fun e1 => tt e1 fun w1 k => if k = true then te { e1 with w := w1 } fun w2 d => dLcL g tt te s0 Q xs w2 (acc ++ [d]) else dLcL g tt te s0 Q xs w1 acc
def dLc (ti : TAD) (g : TGD) (tt : TTD) (te : TD) (vs : List Nat) : TAD := fun e Q => ti e fun w ds => dLcL g tt te (wipeD e.s vs) Q ds w []
theorem dLcL_mono {g : TGD} {tt : TTD} {te : TD} (hg : ∀ d e Q Q', (∀ e, Q e → Q' e) → g d e Q → g d e Q') (ht : MonT tt) (he : MonD te) {s0 : List Sl} {Q Q' : Nat → List D → Prop} (h : ∀ w ds, Q w ds → Q' w ds) :
    ∀ xs w acc, dLcL g tt te s0 Q xs w acc → dLcL g tt te s0 Q' xs w acc
  | [], w, acc, q => h _ _ q
  | x :: xs, w, acc, q => ⟨q.1, hg _ _ _ _ (fun e1 q => ht _ _ _ (fun w1 k q => by
    cases k with
    | true =>
      rw [if_pos rfl] at q ⊢
      exact he _ _ _ (fun w2 d q => dLcL_mono hg ht he h xs w2 _ q) q
    | false =>
      rw [if_neg Bool.false_ne_true] at q ⊢
      exact dLcL_mono hg ht he h xs w1 acc q) q) q.2⟩
/-- the reading of a comprehension -/
theorem lc_d {A : Am} {ti : TAD} {g : TGD} {sl vs : List Nat} {tt : TTD} {te : TD} (mi : MonA ti) (mg : ∀ d e Q Q', (∀ e, Q e → Q' e) → g d e Q → g d e Q') (mt : MonT tt) (me : MonD te) (hv : ∀ i ∈ sl, i ∈ vs) {σ : L2.St} {H : Hp} {Q : VK}
    (q : liftN A (dLc ti g tt te vs) σ H Q) : tLc (liftIc A ti) (liftG A g sl) (liftT A tt) (lift A te) vs σ H Q := by
  obtain ⟨e, F, s, q⟩ := q
  refine ⟨e, F, s, mi _ _ _ (fun w ds q F1 H1 st1 m1 J G Y wk ok => ?_) q⟩
  intro Dl hDl
  have hD0 : H Dl = none := by
    cases z : H Dl with
    | none => rfl
    | some o => exact absurd hDl (st1.t Dl (by rw [z]; simp))
  have s1 := s.step st1 m1
  have nD : ¬ A.c.S.mut Dl := m1.nmut hDl
  refine lc_it wk (fun i H' => ∃ F' w' acc vs', Step A.c.S F1 H1 F' H' ∧ MSt A.c.S w' H' ∧ F' Dl = none ∧ H' Dl = some (.lst vs') ∧ RpAll A.c F' vs' acc ∧ dLcL g tt te (wipeD e.s vs) (fun w ds => ∀ p vs F' H', Step A.c.S F H F' H' → MSt A.c.S w H' → H p = none → F' p = none → H' p = some (.lst vs) → RpAll A.c F' vs ds → Q (.ref p) H') (ds.drop i) w' acc)
    ⟨F1, w, [], [], Step.newO st1.h _ hDl, m1.sub (Sub.new hDl), st1.h.no hDl, upd_same, .nil, q⟩ (fun i H' _ ⟨F', w', acc, vs', st', _⟩ => ok.g F' H' st') (fun i x H' H'' hi ⟨F', w', acc, vs', st', m', f', h', r', q⟩ y => ?_) (fun H' ⟨F', w', acc, vs', st', m', f', h', r', q⟩ => ?_)
  · have hd : ds[i]? = some ds[i] := List.getElem?_eq_getElem hi
    rw [List.drop_eq_getElem_cons hi] at q
    obtain ⟨hl, q⟩ := q
    obtain ⟨F2, st2, sb2, r2⟩ := ok.y i F' H' x H'' st' y _ hd
    have s2 : Sim A ⟨wipeD e.s vs, w'⟩ F2 (L2.wipe σ vs) H'' := (s1.step (st'.trans st2) (m'.sub sb2)).wipe vs
    refine ⟨⟨wipeD e.s vs, w'⟩, F2, ds[i], s2, r2, mg _ _ _ _ (fun e1 q σ1 ag s3 => ?_) q⟩
    refine ⟨by rw [ag.wipe hv]; exact wipe_wipe, e1, F2, s3, mt _ _ _ (fun w1 k q F3 H3 st3 m3 => ?_) q⟩
    have stA : Step A.c.S F1 H1 F3 H3 := (st'.trans st2).trans st3
    have hD3 : H3 Dl = some (.lst vs') := st3.k _ _ (sb2 _ _ h') nD
    have fD3 : F3 Dl = none := by
      cases z : F3 Dl with
      | none => rfl
      | some o =>
        rcases stA.n Dl (by rw [z]; simp) with z2 | z2
        · exact absurd (st1.h.no hDl) z2
        · rcases (st2.trans st3).n Dl (by rw [z]; simp) with z3 | z3
          · exact absurd f' z3
          · rw [h'] at z3; cases z3
    cases k with
    | true =>
      rw [if_pos rfl] at q
      refine iteT ?_
      refine ⟨{ e1 with w := w1 }, F3, s3.step st3 m3, me _ _ _ (fun w2 d q v F4 H4 st4 m4 r4 => ?_) q⟩
      have stB : Step A.c.S F1 H1 F4 H4 := stA.trans st4
      have hD4 : H4 Dl = some (.lst vs') := st4.k _ _ hD3 nD
      have fD4 : F4 Dl = none := by
        cases z : F4 Dl with
        | none => rfl
        | some o =>
          rcases st4.n Dl (by rw [z]; simp) with z3 | z3
          · exact absurd fD3 z3
          · rw [hD3] at z3; cases z3
      refine ⟨vs', hD4, by rw [r'.length]; exact hl, F4, w2, acc ++ [d], vs' ++ [v], ⟨stB.f, fun a u e => ?_, fun a u e n => ?_, fun a e => ?_, stB.n⟩, m4.but hD4 nD (fun a o na e => by rw [upd_ne na]; exact e), fD4, upd_same, (r'.mono ((st2.f.trans st3.f).trans st4.f)).append (.cons r4 .nil), q⟩
      · have na : a ≠ Dl := fun z => by rw [z, fD4] at e; cases e
        rw [upd_ne na]; exact stB.h a u e
      · have na : a ≠ Dl := fun z => by rw [z, hDl] at e; cases e
        rw [upd_ne na]; exact stB.k a u e n
      · by_cases na : a = Dl
        · rw [na, upd_same]; simp
        · rw [upd_ne na]; exact stB.t a e
    | false =>
      rw [if_neg Bool.false_ne_true] at q
      refine iteF ?_
      exact ⟨F3, w1, acc, vs', stA, m3, fD3, hD3, r'.mono (st2.f.trans st3.f), q⟩
  · rw [List.drop_length] at q
    exact q Dl vs' F' H' (st1.trans st') m' hD0 f' h' r'
theorem xn_lc {elt tg iter : Expr} {ifs : List Expr} {scope : Scope} {own : List (Str × Nat)} {ti : TAD} {g : TGD} {sl : List Nat} {tt : TTD} {te : TD} (hc : X.calm = true) (hN : X.N.Nodup) (hi : PXIc X B tg iter ti) (ok : BlkOk X.N X.env.scope scope own)
    (hg : ∀ (s : Shared) (H : Hp) (C : Addr) (cl : List (Str × Addr)) (fp : List Addr), PXG (X.blk s H scope (compEnvC scope cl C X.env) fp) B tg g sl) (ht : ∀ (s : Shared) (H : Hp) (C : Addr) (cl : List (Str × Addr)) (fp : List Addr), PXTs (X.blk s H scope (compEnvC scope cl C X.env) fp) B ifs tt)
    (he : ∀ (s : Shared) (H : Hp) (C : Addr) (cl : List (Str × Addr)) (fp : List Addr), PX (X.blk s H scope (compEnvC scope cl C X.env) fp) B elt te) (hv : ∀ i ∈ sl, i ∈ own.map (·.2)) (hs : ∀ x, foldedSetIterable iter X.env x = pure x := by intro _; rfl) :
    PXN X B (.ListComp elt [⟨tg, iter, ifs, 0⟩] scope pos) (dLc ti g tt te (own.map (·.2))) := by
  have mg := (hg ({} : Shared) (fun _ => none) 0 [] []).mono
  have mt := (ht ({} : Shared) (fun _ => none) 0 [] []).mono
  have me := (he ({} : Shared) (fun _ => none) 0 [] []).mono
  refine ⟨fun e Q Q' h q => hi.mono _ _ _ (fun w ds q => dLcL_mono mg mt me h _ _ _ q) q, pe_imp (pe_lc (wi := liftIc (am X B) ti) (g := liftG (am X B) g sl) (tt := liftT (am X B) tt) (te := lift (am X B) te) hc hN hi.pi ok (fun s H C cl fp => (hg s H C cl fp).pg) (fun s H C cl fp => (ht s H C cl fp).pts) (fun s H C cl fp => (he s H C cl fp).pe) hs) fun σ H Q q => ?_⟩
  exact lc_d hi.mono mg mt me hv q
end
end PL
end
section
set_option Elab.async false
set_option linter.all false
set_option maxRecDepth 100000
set_option maxHeartbeats 4000000
set_option autoImplicit false
/-! P7: a def keeps its promise over data. -/
namespace PL
open PySem PySem.Spec PyProof.Rows L2

/-- the slots at a def's entry -/
def startD (N : List Str) (ds : List D) : List Sl := ds.map Sl.d ++ List.replicate (N.length - ds.length) Sl.no
def retD (Q : Nat → D → Prop) : EndsD := ⟨fun e => Q e.w .none, Q, fun _ => False, fun _ => False⟩
section
variable {P : Program} {w : World} {K : PySem.W.Frag} {mg : Str → Option Value} {base : Heap}
theorem sim_start {N : List Str} {S : Msh} {F H : Hp} {vs : List V} {ds : List D} {n : Nat} (s : Sub F H) (m : MSt S n H) (fm : ∀ a, S.mut a → F a = none) (r : RpAll ⟨K, mg, S⟩ F vs ds) :
    Sim ⟨⟨K, mg, S⟩, F, H⟩ ⟨startD N ds, n⟩ F (L2.start N vs) H := by
  have hl := r.length
  have own : ∀ (i : Nat) (xs : List D), (startD N ds)[i]? = some (.own xs) → False := fun i xs h => by
    unfold startD at h
    have hm := List.mem_of_getElem? h
    rcases List.mem_append.mp hm with q | q
    · obtain ⟨d, _, e⟩ := List.mem_map.mp q
      cases e
    · have := List.eq_of_mem_replicate q
      cases this
  refine ⟨s, m, fm, by simp [startD, L2.start, hl], fun i z h => ?_, fun i j xs ys h => (own i xs h).elim, Step.refl s, fun i xs p h => (own i xs h).elim⟩
  unfold startD at h
  unfold L2.start
  by_cases hi : i < ds.length
  · rw [List.getElem?_append_left (by simpa using hi)] at h
    rw [List.getElem?_append_left (by simpa [hl] using hi)]
    rw [List.getElem?_map] at h ⊢
    cases hd : ds[i]? with
    | none => rw [hd] at h; cases h
    | some d =>
      rw [hd] at h
      cases h
      obtain ⟨v, hv, rv⟩ := r.get hd
      exact ⟨v, by rw [hv]; rfl, rv⟩
  · rw [List.getElem?_append_right (by simpa using Nat.le_of_not_lt hi)] at h
    have hm := List.mem_of_getElem? h
    have := List.eq_of_mem_replicate hm
    subst this
    trivial
/-- a def that is there, with its promise -/
def DOk (P : Program) (w : World) (K : PySem.W.Frag) (mg : Str → Option Value) (base : Heap) (k : Nat) (x : Str) (ps : List Str) (sp : SpD) : Prop :=
  ∃ f fd, mg x = some (.ref f) ∧ PySem.W.keepIn K (.ref f) = true ∧ Binds K fd ps [] ∧ FnOk P w K mg base (L2.CX P w) k f fd ps (spOf K mg sp)
/-- a def that is there -/
def At (K : PySem.W.Frag) (mg : Str → Option Value) (x : Str) (st : Stmt) (ps : List Str) : Prop :=
  ∃ f fd, mg x = some (.ref f) ∧ Fun K x x st f fd ∧ Binds K fd ps []
theorem dok {x : Str} {st : Stmt} {N ps : List Str} {k : Nat} {sp : SpD} (A : At K mg x st ps) (Sc : FnScope N ps (defScope st)) (len : ∀ ds w Q E, sp ds w Q E → ds.length = ps.length)
    (hbody : ∀ (f : Addr) (cdv : Value) (A : Around) (outer : List Env) (s : Shared) (S : Msh) (F H : Hp) (E : XK), Room k (A.deeper (envOfC x (defScope st) s.heap.objs.size f cdv)) →
      ∃ t, PXSs (cxOf (L2.CX P w) P w K mg base N x (defScope st) f cdv A outer s H E) ⟨S, F, H⟩ (defBody st) t ∧
        ∀ ds n Q, sp ds n Q (EdB (cxOf (L2.CX P w) P w K mg base N x (defScope st) f cdv A outer s H E) ⟨S, F, H⟩ E) → t (retD Q) ⟨startD N ds, n⟩) :
    DOk P w K mg base (k + 1) x ps sp := by
  obtain ⟨f, fd, hm, Fn, hb⟩ := A
  refine ⟨f, fd, hm, Fn.kp, hb, Fn.okX Sc (fun vs H Q E h => ?_) fun cdv A outer s H vs Q E hr h => ?_⟩
  · obtain ⟨S, F, ds, n, _, _, _, r, h⟩ := h
    rw [r.length]
    exact len _ _ _ _ h
  · obtain ⟨S, F, ds, n, sb, m, fm, r, h⟩ := h
    obtain ⟨t, ht, hq⟩ := hbody f cdv A outer s S F H E hr
    have q0 := hq ds n _ h
    refine ⟨_, ht.ps [], ⟨_, F, ⟨sim_start (N := N) sb m fm r, fun q hq => absurd hq (by simp)⟩, ht.mono _ _ _ ⟨fun e q F' σ' H' s' => ?_, fun n' d q v F' H' st' m' r' => ?_, fun _ q => False.elim q, fun _ q => False.elim q⟩ q0⟩⟩
    · exact q .non F' H' s'.sim.en s'.sim.ms .non
    · exact q v F' H' st' m' r'
end
section
variable {X : Cx} {B : Bd} {a : Expr} {es : List Expr} {tr : TAD} {x : Str} {p pos : Pos} {sp : SpD} {k : Nat} {ps : List Str}
/-- a call of it from a body that lets exceptions through -/
theorem px_callD {E : XK} (h : DOk X.prog X.w X.K X.mg X.base k x ps sp) (ms : SpMono sp) (hr : Room k X.A) (hx : Passes (L2.CX X.prog X.w) X E) (ha : PXA X B (a :: es) tr) (hg : Gl X x := by rfl)
    (hdb : (x == ("__debug__" : Str)) = false := by decide) (he : starEach (a :: es) X.env = (false, eval a X.env) :: starEach es X.env := by rfl) (hpl : (backTo pos (starEach es X.env)).any (·.1) = false := by rfl) :
    PX X B (.Call (.Name x p) (a :: es) [] pos) (dCall sp (EdB X B E) tr) := by
  obtain ⟨f, fd, hm, hk, hb, G⟩ := h
  exact px_call G ms hr hg hm hk hb hx ha hdb he hpl
end
end PL
end
section
set_option Elab.async false
set_option linter.all false
set_option maxRecDepth 100000
set_option maxHeartbeats 4000000
set_option autoImplicit false
/-! P8: own errors whose __init__ says super().__init__(v) and keeps v in a field. -/
namespace PL
open PySem PySem.W PySem.Calls PyProof.Rows PySem.HandSPX
/-! ### the text of __init__ -/
def bdA (prm : Str) (p1 p2 : Pos) : Arguments := { posonlyargs := [], args := [{ arg := PySem.Str.ofString "self", annotation := none, pos := p1 }, { arg := prm, annotation := none, pos := p2 }], vararg := none, kwonlyargs := [], kw_defaults := [], kwarg := none, defaults := [] }
def bdB (prm fld : Str) (a0 a1 a2 a3 a4 a5 q1 q2 q3 q4 : Pos) : List Stmt :=
  [.Expr (.Call (.Attribute (.Call (.Name (PySem.Str.ofString "super") a0) [] [] a1) (PySem.Str.ofString "__init__") a2) [.Name prm a3] [] a4) a5, .Assign [.Attribute (.Name (PySem.Str.ofString "self") q1) fld q2] (.Name prm q3) q4]
def bdS (prm : Str) : Scope := { kind := .function, names := [(PySem.Str.ofString "self", .local), (prm, .local), (PySem.Str.ofString "__class__", .free), (PySem.Str.ofString "super", .globalImplicit)], isGenerator := false, isCoroutine := false, more := [] }
/-- what the written part says of the class nm, at C -/
structure BadTxt (prog : Program) (K : Frag) (mg : Str → Option Value) (nm prm fld : Str) (C : Addr) : Prop where
  gC : mg nm = some (.ref C)
  cls : ∃ nm q N bs bm sn sub ab col dd k0 k1 k2 k3 k5, K.lookup C = some (excClassObj nm q C N bs bm true sn sub ab col dd k0 k1 k2 k3 k5 "ValueError.__new__") ∧ refsVE bm = true
  sa : findIn K (.ref C) "__setattr__" = some (some (.builtin "object.__setattr__"))
  ga : findIn K (.ref C) "__getattribute__" = some (some (.builtin "BaseException.__getattribute__"))
  gg : findIn K (.ref C) "__getattr__" = some none
  noN : findIn K (.ref C) fld = some none
  kC : keepIn K (.ref C) = true
  exC : subIn K (.ref C) (.type "BaseException") = some true
  veC : subIn K (.ref C) (.type "ValueError") = some true
  tyC : typeIn K (.ref C) = some (.type "type")
  hdC : hasDictIn K C = true
  suC : mroIn K C (.ref C) = some true
  opq : nsIn K cStatics "thirdparty.any" = some none
  sup : ks_superIn K C C "__init__" = some (some (.builtin "ValueError.__init__"))
  noS : mg "super" = none
  top : (prog.main.scope.names.lookup ("super" : Str)).isSome = false
  nsf : (PySem.Str.ofString "self" == prm) = false
  nsp : (prm == ("super" : Str)) = false ∧ (prm == ("__class__" : Str)) = false ∧ (prm == ("__debug__" : Str)) = false
  fn : ∃ (fI cc cda : Addr) (oc : Value) (od : Option Addr) (doc pm : Value) (an : Option Addr) (ct : Value) (osl : Array (Option Value)) (qn : Str) (p1 p2 a0 a1 a2 a3 a4 a5 q1 q2 q3 q4 : Pos),
    findIn K (.ref C) "__init__" = some (some (.ref fI)) ∧ typeIn K (.ref fI) = some (.type "function") ∧
    K.lookup fI = some ⟨oc, od, .func (ksFn "__init__" qn (bdA prm p1 p2) (bdB prm fld a0 a1 a2 a3 a4 a5 q1 q2 q3 q4) (bdS prm) .none .none doc pm an (.ref cda) ct cc), osl⟩ ∧ codeIn K (.ref cda) qn = true ∧
    (∃ ccl cdd vs ccs file tf, K.lookup cda = some ⟨ccl, cdd, .fields vs, ccs⟩ ∧ vs[2]? = some (.str file tf) ∧ ((prog.main.file : Str) == file) = true) ∧
    (∃ cl cld csl, K.lookup cc = some ⟨cl, cld, .cell (some (.ref C)), csl⟩) ∧
    (∀ env : Env, ∃ pl : Sem Bool, eval (.Call (.Attribute (.Call (.Name (PySem.Str.ofString "super") a0) [] [] a1) (PySem.Str.ofString "__init__") a2) [.Name prm a3] [] a4) env = (do
      let ov ← attributeBase (.Call (.Name (PySem.Str.ofString "super") a0) [] [] a1) (PySem.Str.ofString "__init__") env (eval (.Call (.Name (PySem.Str.ofString "super") a0) [] [] a1) env)
      standAt a2.atName
      let (f, first) ← holding [ov] (getMethod ov (PySem.Str.ofString "__init__") pl)
      callWith a4 f first (backTo a4 (starEach [.Name prm a3] env)) [])) ∧
    (∀ env : Env, swapsWith (.Call (.Attribute (.Call (.Name (PySem.Str.ofString "super") a0) [] [] a1) (PySem.Str.ofString "__init__") a2) [.Name prm a3] [] a4) none a5.line env = pure false) ∧
    ∀ (x v : Value), bindArgs (ksFn "__init__" qn (bdA prm p1 p2) (bdB prm fld a0 a1 a2 a3 a4 a5 q1 q2 q3 q4) (bdS prm) .none .none doc pm an (.ref cda) ct cc) ⟨[x, v], []⟩ = pure [(PySem.Str.ofString "self", x), (prm, v)]
/-- a made one -/
structure BadMade (fld : Str) (h h' : Heap) (e C d : Addr) (v : Value) : Prop where
  keep : ∀ b o, h.get? b = some o → h'.get? b = some o
  new : h.objs.size ≤ e
  obj : ∃ oe vs, h'.get? e = some oe ∧ oe.cls = .ref C ∧ oe.dict = some d ∧ oe.data = .fields vs ∧ vs[1]? = some .none
  dbig : h.objs.size ≤ d
  dne : d ≠ e
  ns : h'.Ns1 d (fun y => if y = fld then some v else none)
section
variable {prog : Program} {w : World} {A : Around} {E : Value → Shared → Prop} {R : Result → Shared → Prop} {s : Shared} {K : Frag} {mg : Str → Option Value} {nm prm fld : Str} {C : Addr}
theorem mod_keeps {h h' : Heap} (m : L2.Mod K mg h) (k : ∀ b o, h.get? b = some o → h'.get? b = some o) : L2.Mod K mg h' := ⟨m.kin.keeps k, m.glob.keeps k, let ⟨mb, a, b⟩ := m.blt; ⟨mb, a.keeps k, b⟩, m.nolimit.keeps k⟩
/-- ValueError.__init__ bound to x, called -/
theorem call_kxs {h : Heap} {g : Array GenState} {d : Drawn} {t : Nat} {os : OsState} {u x t0 : Addr} {rest : List Value} {Q : Value → Shared → Prop} (T : BadTxt prog K mg nm prm fld C) (X : K.In h) (hx : h.get? x = some (excO C t0)) (hu : h.get? u = some (kxs_mw "ValueError.__init__" x)) (hz : rest.length ≤ sizeLine)
    (hq : ∀ h' t1, (∀ b o, b ≠ x → h.get? b = some o → h'.get? b = some o) → h'.get? x = some (excO C t1) → Q .none ⟨h', g, d, t, os⟩) : wpAny (model prog w) A (call (.ref u) rest) Q E ⟨h, g, d, t, os⟩ := by
  obtain ⟨nm, q, N, bs, bm, sn, sub, ab, col, dd, k0, k1, k2, k3, k5, hC, hbm⟩ := T.cls
  have FB := PySem.F.excBase_ValueError
  refine wpAny_call (codeAny_of_tree ?_)
  show wpAny _ A.in1 (callAny (.ref u) ⟨rest, []⟩) _ _ _
  simp only [callAny]
  refine wpAny_bind (wpAny_load hu ?_)
  simp only [kxs_mw, show (Value.type "method-wrapper" == Value.type "method" || Value.type "method-wrapper" == Value.type "builtin_function_or_method" || Value.type "method-wrapper" == Value.type "method-wrapper") = true by decide, if_true]
  refine KFB.if_so (by decide) (wpAny_bind (check_bound_init FB.toExcCallFacts (X _ _ hC) hx rfl (wpAny_bind (wpAny_pure (wpAny_pure ⟨plainId_quiet FB.init.plain _, codeAny_builtin FB.initEntry ?_⟩)))))
  exact exc_init_tree (cls := .ref C) (t0 := t0) (dv := none) (c2 := .none) (c3 := .none) (b4 := .bool false) hx hz fun h' k e' t' => hq h' _ k e'
/-- what __init__ leaves of a fresh exception at x -/
structure BadEnd (fld : Str) (h h' : Heap) (x C dx : Addr) (v : Value) : Prop where
  keep : ∀ b o, b ≠ x → h.get? b = some o → h'.get? b = some o
  obj : ∃ t1, h'.get? x = some { cls := .ref C, dict := some dx, data := .fields #[.ref t1, .none, .none, .none, .bool false, .none] }
  dbig : h.objs.size ≤ dx
  dne : dx ≠ x
  ns : h'.Ns1 dx (fun y => if y = fld then some v else none)
theorem ldN {M : Model} {env : Env} {m : Str → Option Value} {x : Str} {pos : Pos} {v : Value} {Q : Value → Shared → Prop} (hn : s.heap.Ns env.locals m) (hv : m x = some v) (hk : env.scope.kind = .function) (hl : env.kindOf x = some .local) (hd : (x == ("__debug__" : Str)) = false)
    (h : Q v s) : wpAny M A (eval (.Name x pos) env) Q E s := wpAny_Name (wpAny_loadName_local hk hl hn hv h) hd
theorem bad_init (T : BadTxt prog K mg nm prm fld C) {fI x t0 : Addr} {v : Value} (hfI : findIn K (.ref C) "__init__" = some (some (.ref fI))) (Md : L2.Mod K mg s.heap) (hx : s.heap.get? x = some (excO C t0)) (hnx : K.lookup x = none) (hroom : A.depth < recursionLimit)
    (hq : ∀ h' tk dx, BadEnd fld s.heap h' x C dx v → R (.ok (.ret .none)) { s with heap := h', toks := tk }) :
    codeAny (model prog w) A (.call (.ref fI) ⟨[.ref x, v], []⟩) R s := by
  obtain ⟨fI', cc, cda, oc, od, doc, pm, an, ct, osl, qn, p1, p2, a0, a1, a2, a3, a4, a5, q1, q2, q3, q4, hfI', _, hfn, hcd, ⟨ccl, cdd, cvs, ccs, file, tf, hcda, hc2, hfile⟩, ⟨cl, cld, csl, hcell⟩, hev, hsw, hbd⟩ := T.fn
  rw [hfI] at hfI'
  cases hfI'
  obtain ⟨nm', q, N, bs, bm, sn, sub, ab, col, dd, k0, k1, k2, k3, k5, hC, hbm⟩ := T.cls
  obtain ⟨np1, np2, np3⟩ := T.nsp
  have nsf := T.nsf
  have hcl : clsIn K C = some { name := nm', bases := bs, mro := .ref C :: bm, ns := N, qualname := q, hasDict := true, slotNames := sn, subclasses := sub, abstract := ab, collection := col, hasDel := false } := by unfold clsIn; rw [hC] <;> rfl
  have lp : (bdS prm).names.lookup prm = some .local := by
    have e1 : (prm == PySem.Str.ofString "self") = false := by
      rw [Bool.eq_false_iff] at nsf ⊢
      exact fun z => nsf (by rw [eq_of_beq z]; exact beq_self_eq_true _)
    simp [bdS, List.lookup, e1]
  have ls : (bdS prm).names.lookup (PySem.Str.ofString "self") = some .local := by simp [bdS, List.lookup]
  have lc : (bdS prm).names.lookup ("__class__" : Str) = some .free := by
    have e1 : (("__class__" : Str) == PySem.Str.ofString "self") = false := by decide
    have e2 : (("__class__" : Str) == prm) = false := by
      rw [Bool.eq_false_iff] at np2 ⊢
      exact fun z => np2 (by rw [eq_of_beq z]; exact beq_self_eq_true _)
    have e3 : (("__class__" : Str) == PySem.Str.ofString "__class__") = true := by decide
    simp [bdS, List.lookup, e1, e2, e3]
  have lu : (bdS prm).names.lookup ("super" : Str) = some .globalImplicit := by
    have e1 : (("super" : Str) == PySem.Str.ofString "self") = false := by decide
    have e2 : (("super" : Str) == prm) = false := by
      rw [Bool.eq_false_iff] at np1 ⊢
      exact fun z => np1 (by rw [eq_of_beq z]; exact beq_self_eq_true _)
    have e3 : (("super" : Str) == PySem.Str.ofString "__class__") = false := by decide
    have e4 : (("super" : Str) == PySem.Str.ofString "super") = true := by decide
    simp [bdS, List.lookup, e1, e2, e3, e4]
  refine ks_codeAny_call_defAt (fd := ksFn "__init__" qn (bdA prm p1 p2) (bdB prm fld a0 a1 a2 a3 a4 a5 q1 q2 q3 q4) (bdS prm) .none .none doc pm an (.ref cda) ct cc) (body := bdB prm fld a0 a1 a2 a3 a4 a5 q1 q2 q3 q4) (binds := [(PySem.Str.ofString "self", .ref x), (prm, v)]) hroom (Md.kin _ _ hfn) rfl Md.nolimit (codeRec_of Md.kin hcd) rfl (BindsTo.of_eq (hbd _ _)) ?_ ?_ (fun h₁ hns k₁ => ?_) rfl rfl rfl
  · intro y hy
    simp only [ksFn, bdS, List.mem_cons, List.not_mem_nil, or_false] at hy
    rcases hy with rfl | rfl | rfl | rfl <;> simp
  · intro y hy
    simp only [List.mem_cons, List.not_mem_nil, or_false] at hy
    rcases hy with rfl | rfl
    · exact ls
    · exact lp
  have M₁ : L2.Mod K mg h₁ := mod_keeps Md k₁
  have hx₁ := k₁ _ _ hx
  have hD := M₁.kin _ _ hC
  have hxL : s.heap.objs.size ≠ x := Nat.ne_of_gt (Heap.lt_size hx)
  have xC : x ≠ C := fun z => by
    rw [z, hD] at hx₁
    cases hx₁
  have hself : (fun y => ([(PySem.Str.ofString "self", Value.ref x), (prm, v)] : List (Str × Value)).reverse.lookup y) (PySem.Str.ofString "self") = some (.ref x) := by
    simp [List.lookup, nsf]
  have hprm : (fun y => ([(PySem.Str.ofString "self", Value.ref x), (prm, v)] : List (Str × Value)).reverse.lookup y) prm = some v := by simp [List.lookup]
  obtain ⟨mb, hb1, hb2⟩ := M₁.blt
  show _root_.PySem.wpAt _ _ _ (execs (bdB prm fld a0 a1 a2 a3 a4 a5 q1 q2 q3 q4) _) _ _ _
  obtain ⟨pl, hpl⟩ := hev (ksEnv qn (bdS prm) s.heap.objs.size fI (.ref cda) cc)
  refine ks_wpAt_execs_cons (ks_wpAt_Expr_any (ks_wpAt_MethodCall ?_ hpl) rfl (hsw _))
  refine ks_wpAt_super_base lu lc (by decide) rfl (k₁ _ _ (Md.kin _ _ hfn)) rfl rfl rfl (M₁.kin _ _ hcda) rfl hc2 hfile T.top ?_
  refine ks_loadName_global rfl lu (loadGlobal_builtin M₁.glob T.noS hb1 ((hb2 _ (by decide)).trans (by decide +kernel)) ⟨rfl, ?_⟩)
  refine wpAny_loadName_free rfl lc rfl ⟨_, M₁.kin _ _ hcell, rfl⟩ ?_
  refine wpAny_loadName_local rfl ls hns hself ?_
  refine ks_wpAny_isType_cls hD rfl ⟨rfl, ?_⟩
  refine ks_wpAny_call_super hD rfl hx₁ rfl (fun c e => by cases e) (looks_mroIn M₁.kin T.suC) (fun h₂ so₂ k₂ => ?_)
  have M₂ : L2.Mod K mg h₂ := mod_keeps M₁ k₂
  have hx₂ := k₂ _ _ hx₁
  have hns₂ := hns.keeps k₂
  have IX : ∀ {h : Heap} {t : Addr}, h.get? x = some (excO C t) → InstAt h x (excO C t) C none := fun e => ⟨e, rfl, rfl, trivial⟩
  have hsup := T.sup
  unfold ks_superIn at hsup
  rw [hcl, Option.bind_some] at hsup
  have hmro : Looks (model prog w) h₂ (mroOf (.ref C)) (.ref C :: bm) := (looks_clsIn M₂.kin hcl).andThen .now
  refine kxs_getMethod kxs_ValueError (A := A.deeper _) so₂ (looks_opaque M₂.kin T.opq) hmro rfl M₂.kin hsup ((IX hx₂).type.andThen (looks_subIn M₂.kin T.veC)) xC (by decide) ?_
  refine kxs_callWith (i := "ValueError.__init__") (x := x) rfl (evalArgs_plain ?_)
  have k₃ : ∀ b o, h₂.get? b = some o → (h₂.push (kxs_mw "ValueError.__init__" x)).get? b = some o := fun b o e => Heap.get?_push_of_some _ e
  have M₃ := mod_keeps M₂ k₃
  refine Calls.spliced_cons (ldN (m := _) (hns₂.keeps k₃) hprm rfl lp np3 ?_)
  refine Calls.spliced_nil ⟨Heap.get?_push_at rfl rfl, ?_⟩
  refine call_kxs T M₃.kin (k₃ _ _ hx₂) (Heap.get?_push_at rfl rfl) (by rw [sizeLine_eq]; exact (by decide : 1 ≤ 16777216)) fun h₄ t1 k₄ hx₄ => ?_
  have X₄ : K.In h₄ := fun a o e => k₄ a o (fun z => by rw [z, hnx] at e; cases e) (M₃.kin a o e)
  have hns₄ : h₄.Ns s.heap.objs.size fun y => ([(PySem.Str.ofString "self", Value.ref x), (prm, v)] : List (Str × Value)).reverse.lookup y := by
    obtain ⟨o, es, ep, e, r⟩ := hns₂.keeps k₃
    exact ⟨o, es, ep, k₄ _ _ hxL e, r⟩
  have all4 : ∀ b o, b ≠ x → s.heap.get? b = some o → h₄.get? b = some o := fun b o hb e => k₄ b o hb (k₃ _ _ (k₂ _ _ (k₁ _ _ e)))
  have sz1 : s.heap.objs.size < h₁.objs.size := hns.lt
  have sz4 : s.heap.objs.size ≤ h₄.objs.size := Nat.le_of_lt hns₄.lt
  refine ks_wpAt_execs_cons (ks_wpAt_Assign_Attr (wpAt_of_wpAny (ldN hns₄ hprm rfl lp np3 (ldN hns₄ hself rfl ls (by decide) ?_))))
  refine set_plain X₄ (ox := excO C t1) (od := none) (IX hx₄) T.sa ?_
  refine exc_osa X₄ hx₄ hcl (show refsVE (.ref C :: bm) = true from hbm) rfl T.noN (fun h₅ tk₅ dx k₅ dn dne hx₅ hn₅ => ?_)
  exact wpAt_of_wpAny (wpAny_execs_nil (hq h₅ tk₅ dx ⟨fun b o hb e => k₅ b o hb (all4 b o hb e), ⟨t1, hx₅⟩, Nat.le_trans sz4 dn, dne, hn₅⟩))
theorem bad_made (T : BadTxt prog K mg nm prm fld C) {v : Value} (Md : L2.Mod K mg s.heap) (hroom : A.depth + 1 < recursionLimit)
    (hq : ∀ h' tk e d, BadMade fld s.heap h' e C d v → R (.ok (.ret (.ref e))) { s with heap := h', toks := tk }) :
    codeAny (model prog w) A (.call (.ref C) ⟨[v], []⟩) R s := by
  obtain ⟨nm', q, N, bs, bm, sn, sub, ab, col, dd, k0, k1, k2, k3, k5, hC, hbm⟩ := T.cls
  obtain ⟨fI, _, _, _, _, _, _, _, _, _, _, _, _, _, _, _, _, _, _, _, _, _, _, hfI, tfI, _⟩ := T.fn
  obtain ⟨hp, g, dr, tk, os⟩ := s
  have k : ∀ b o, hp.get? b = some o → ((hp.push (kdv_tup [v])).push (excO C hp.objs.size)).get? b = some o := fun b o e => Heap.get?_push_of_some _ (Heap.get?_push_of_some _ e)
  have hget : ((hp.push (kdv_tup [v])).push (excO C hp.objs.size)).get? (hp.objs.size + 1) = some (excO C hp.objs.size) := by heap_get
  have hnx : K.lookup (hp.objs.size + 1) = none := by
    cases e : K.lookup (hp.objs.size + 1) with
    | none => rfl
    | some o =>
      have z : hp.get? (hp.objs.size + 1) = some o := Md.kin _ _ e
      exact absurd (Nat.lt_of_succ_lt (Heap.lt_size z)) (Nat.lt_irrefl _)
  refine call_own PySem.F.excBase_ValueError (fun X => refsVE_contains X bm hbm) (Md.kin _ _ hC) (looks_findIn Md.kin hfI) (fun self => bind_fn Md.kin self tfI) (by rw [sizeLine_eq]; exact (by decide : 1 ≤ 16777216)) ?_
  refine bad_init (s := ⟨(hp.push (kdv_tup [v])).push (excO C hp.objs.size), g, dr, tk, os⟩) T hfI (mod_keeps Md k) hget hnx ?_ fun h' tk' dx M => ?_
  · show A.depth + 1 < recursionLimit
    exact hroom
  · obtain ⟨t1, hx⟩ := M.obj
    have old : ∀ b o, hp.get? b = some o → h'.get? b = some o := fun b o e => M.keep b o (Nat.ne_of_lt (Nat.lt_succ_of_lt (Heap.lt_size e))) (k b o e)
    have z : hp.objs.size + 1 + 1 ≤ dx := by
      have dn := M.dbig
      first
        | (simpa only [Heap.size_push] using dn)
        | exact dn
        | (have q := dn; rw [Heap.size_push, Heap.size_push] at q; exact q)
    exact ⟨rfl, hq h' tk' (hp.objs.size + 1) dx ⟨old, Nat.le_succ _, ⟨_, _, hx, rfl, rfl, rfl, rfl⟩, Nat.le_trans (Nat.le_trans (Nat.le_succ _) (Nat.le_succ _)) z, M.dne, M.ns⟩⟩
end
end PL
namespace PL
open PySem PySem.Spec PyProof.Rows L2
theorem relO_one {fld : Str} {v : V} {v' : Value} (r : RelV v v') (f : Str) : RelO (List.lookup f [(fld, v)]) (if f = fld then some v' else none) := by
  by_cases hw : f = fld
  · subst hw
    rw [if_pos rfl, show List.lookup f [(f, v)] = some v by simp [List.lookup]]
    exact r
  · have qw : (f == fld) = false := by simpa using hw
    rw [if_neg hw, show List.lookup f [(fld, v)] = none by simp [List.lookup, qw]]
    trivial
section
variable {X : Cx} {B : Bd} {C : Addr} {nm prm fld : Str}
/-- nm(e) -/
def tMkBad (fld : Str) (C : Addr) (ta : TA) : L2.St → Hp → XK → Prop := fun σ H Q => ta σ H fun vs H1 => ∃ v, vs = [v] ∧ ∀ d, H1 d = none → Q (.ref C) (some d) (upd H1 d (.xd [(fld, v)]))
theorem pmk_bad {a : Expr} {ta : TA} {p pos : Pos} {k : Nat} (T : BadTxt X.prog X.K X.mg nm prm fld C) (hr : Room k X.A) (ha : PA X [a] ta) (hg : Gl X nm) (hdb : (nm == ("__debug__" : Str)) = false)
    (he : starEach (a :: []) X.env = (false, eval a X.env) :: starEach [] X.env) (hpl : (backTo pos (starEach [] X.env)).any (·.1) = false) :
    PMk X (.Call (.Name nm p) [a] [] pos) (tMkBad fld C ta) := by
  intro pins s σ H Q I h
  refine wpAny_Call_Name_kw (ld_glob I hg T.gC ?_ hdb)
  refine PySem.W.callWith_K (h₀ := X.base) I.ok.mod.kin T.kC (thn (ha.run pos pins s σ H _ I h) fun us s1 hh => ?_) he hpl
  obtain ⟨vs, H1, I1, r1, v, ev, q1⟩ := hh
  subst ev
  refine ⟨I1.kIn, ?_⟩
  cases r1 with
  | cons rv rn =>
    rename_i v' us'
    cases rn
    show wpAny _ _ (call (.ref C) [v']) _ _ _
    have Md : L2.Mod X.K X.mg s1.heap := mod_keeps I1.mod fun b o e => I1.bk b o e
    obtain ⟨hp, g, dr, tk, os⟩ := s1
    refine wpAny_call (bad_made T Md (by have := hr.dp; omega) fun h' tk' e d M => ?_)
    show MkP X pins σ Q (.ref e) ⟨h', g, dr, tk', os⟩
    obtain ⟨oe, fv, hoe, hc, hd, hdat, h1⟩ := M.obj
    have hns := M.ns
    obtain ⟨G', g1, g2⟩ := restrict h' fun b => decide (b ≠ e)
    have gk : ∀ b, b ≠ e → G'.get? b = h'.get? b := fun b hb => g1 b (decide_eq_true hb)
    have ge : G'.get? e = none := g2 e (by simp)
    have old : ∀ b o, hp.get? b = some o → G'.get? b = some o := fun b o q => (gk b (Nat.ne_of_lt (Nat.lt_of_lt_of_le (Heap.lt_size q) M.new))).trans (M.keep b o q)
    have ob : ObjOk X.prog X.w (upd H1 d (.xd [(fld, v)])) G' d (.xd [(fld, v)]) := ⟨_, hns.at (fun o q => (gk d M.dne).trans q), fun f => relO_one rv f⟩
    have J : Inv X pins σ (upd H1 d (.xd [(fld, v)])) ⟨G', g, dr, tk', os⟩ := I1.laid (t' := tk') old M.dbig ob
    refine ⟨e, oe, fv, ⟨G', g, dr, tk', os⟩, _, .ref C, some d, rfl, J, fun b o q => ?_, ge, hoe, ⟨hc, hd⟩, hdat, h1, ?_, rfl, I1.bare, raises_own T.exC T.tyC, q1 d (I1.hok.fresh M.dbig)⟩
    · by_cases hb : b = e
      · have q' : G'.get? b = some o := q
        rw [hb, ge] at q'; cases q'
      · exact (gk b hb).symm.trans q
    · rw [upd_ne (Ne.symm M.dne)]
      exact I1.hok.fresh M.new
/-- raise nm(e) -/
def dRaise (fld : Str) (C : Addr) (ed : ED) (t : TD) : TSD := fun _ e => t e fun w x => ed C (some (fld, x)) w
theorem pxs_raise {a : Expr} {ta : TD} {p pos pos2 : Pos} {k : Nat} {E : XK} (hc : X.calm = true) (T : BadTxt X.prog X.K X.mg nm prm fld C) (hr : Room k X.A) (tk : Takes X (fun cls d _ H => E cls d H)) (h : PX X B a ta) (hg : Gl X nm := by rfl) (hdb : (nm == ("__debug__" : Str)) = false := by decide)
    (he : starEach (a :: []) X.env = (false, eval a X.env) :: starEach [] X.env := by rfl) (hpl : (backTo pos (starEach [] X.env)).any (·.1) = false := by rfl) :
    PXS X B (.Raise (some (.Call (.Name nm p) [a] [] pos)) none pos2) (dRaise fld C (EdB X B E) ta) := by
  refine ⟨fun D D' e l q => h.mono _ _ _ (fun _ _ q => q) q, fun P => ps_imp (ps_raise hc tk (pmk_bad T hr (pxa_cons h pxa_nil he).pa hg hdb he hpl)) fun D σ H q => ?_⟩
  obtain ⟨e, F, s, q⟩ := q
  refine ⟨e, F, s.sim, h.mono _ _ _ (fun w x q vs F1 H1 st1 m1 r1 => ?_) q⟩
  cases r1 with
  | cons rv rn =>
    cases rn
    exact ⟨_, rfl, fun d hd => q (some d) (upd F1 d _) _ ((s.sim.en.trans st1).trans (Step.new st1.h _ hd)) (m1.sub (Sub.new hd)) ⟨d, _, rfl, upd_same, rv.mono (Sub.new (st1.h.no hd))⟩⟩
end
end PL
end
section
set_option Elab.async false
set_option linter.all false
set_option maxRecDepth 100000
set_option maxHeartbeats 4000000
set_option autoImplicit false
/-! P9: try with several clauses, each with a name for the error or without. -/
namespace PL
open PySem PySem.Spec PyProof.Rows L2
/-- a clause: the class, the slot of its name, its suite -/
structure ClH where
  c : Value
  i : Option Nat
  ts : Addr → Value → Option Addr → TS
def offE (i : Nat) (D : Ends) : Ends where
  nx := fun σ H => D.nx (σ.set i none) H
  rt := D.rt
  bk := fun σ H => D.bk (σ.set i none) H
  ct := fun σ H => D.ct (σ.set i none) H
def goH (q : ClH) (a : Addr) (cls : Value) (d : Option Addr) (D : Ends) (σ : L2.St) (H : Hp) : Prop := match q.i with
  | none => q.ts a cls d D σ H
  | some i => q.ts a cls d (offE i D) (σ.set i (some (.ref a))) H
def wMM (K : PySem.W.Frag) (Wout : WX) (D : Ends) : List ClH → WX
  | [] => Wout
  | q :: r => fun cls d σ H => ∃ b, PySem.W.exmOne K cls q.c = some b ∧ (b = true → ∀ a, H a = none → goH q a cls d D σ H) ∧ (b = false → wMM K Wout D r cls d σ H)
inductive HdsM (X : Cx) : List ExceptHandler → List ClH → Prop
  | nil : HdsM X [] []
  | as {x n : Str} {c : Value} {i : Nat} {ts : Addr → Value → Option Addr → TS} {b₀ : Stmt} {suite : List Stmt} {np pos' : Pos} {hds : List ExceptHandler} {l : List ClH} (hc : Names X x c) (hi : X.N[i]? = some n) (hln : X.env.kindOf n = some .local)
      (hsu : ∀ (a : Addr) (oe : Obj) (cls : Value) (d : Option Addr) (pn : List (Addr × Obj)), Zc cls d oe → (∃ vs, oe.data = .fields vs) → PSs (X.suite a ((a, oe) :: pn)) (b₀ :: suite) (ts a cls d)) (r : HdsM X hds l) :
      HdsM X (.ExceptHandler (some (.Name x np)) (some n) (b₀ :: suite) pos' :: hds) (⟨c, some i, ts⟩ :: l)
  | no {x : Str} {c : Value} {ts : Addr → Value → Option Addr → TS} {b₀ : Stmt} {suite : List Stmt} {np pos' : Pos} {hds : List ExceptHandler} {l : List ClH} (hc : Names X x c)
      (hsu : ∀ (a : Addr) (oe : Obj) (cls : Value) (d : Option Addr) (pn : List (Addr × Obj)), Zc cls d oe → (∃ vs, oe.data = .fields vs) → PSs (X.suite a ((a, oe) :: pn)) (b₀ :: suite) (ts a cls d)) (r : HdsM X hds l) :
      HdsM X (.ExceptHandler (some (.Name x np)) none (b₀ :: suite) pos' :: hds) (⟨c, none, ts⟩ :: l)
section
variable {X : Cx} {body : List Stmt} {h₀ : ExceptHandler} {hds : List ExceptHandler} {l : List ClH} {pos : Pos} {tb : WX → TS} {Wout : WX}
theorem ps_try_mm (hs : X.stack = X.env :: X.outer) (hf : X.env.frame = some X.env.locals) (hN : X.N.Nodup) (tk : Takes X Wout)
    (hb : ∀ (W : WX) (pn : List (Addr × Obj)) (xe : Value → Shared → Prop), Takes (X.tr pn xe) W → PSs (X.tr pn xe) body (tb W)) (hh : HdsM X (h₀ :: hds) l) :
    PS X (.Try body (h₀ :: hds) [] [] pos) (fun D σ H => tb (wMM X.K Wout D l) D σ H) := by
  refine ⟨fun pins s σ H D I h => ?_⟩
  have ok := I.ok
  have hfr : X.A.frames = some (X.env :: X.outer) := by rw [ok.frames, hs]
  refine wpAny_Try_except (wpAny_mono ((hb (wMM X.K Wout D l) (X.pn ++ pins) (fun e s₁ => wpAny (model X.prog X.w) X.A (noteFrame e X.env) (fun _ s₂ => wpAny (model X.prog X.w) X.A (setFlight e none) (fun _ s₃ =>
    wpAny (model X.prog X.w) X.A (handleBy e X.env (h₀ :: hds)) (SP X pins D) X.xe s₃) X.xe s₂) X.xe s₁) (fun u s' xx => ?_)).run [] s σ H D (I.toTry _) h) (fun f s1 hsp => ?_) (fun e s1 he => he))
  · -- an exception of the body
    obtain ⟨a, B, sI, pins', σ', H', cls, d, rfl, J', nb, up, sky, na, os, ag, w⟩ := xx
    have J : Inv X pins σ' H' sI := J'.ofTry ok
    have sky' : Sky B (X.env :: X.outer) a (Zc cls d) X.env.locals s'.heap := by rw [← hs]; exact sky
    show wpAny (model X.prog X.w) X.A (noteFrame (.ref a) X.env) _ _ _
    refine Sky.land Zc.steady hfr hf sky' fun h3 fl3 up3 => ?_
    have J3 : Inv X pins σ' H' { s' with heap := h3 } := J.landed nb fl3.1 (up.trans up3) os ag
    obtain ⟨oe3, vs3, he3, hz3, hd3⟩ := fl3.there
    have nfr : a ∉ frs (X.env :: X.outer) := fun hm => by
      obtain ⟨_, o', e', hnf⟩ := fl3.2.2.1.mem hm
      rw [he3] at e'
      cases e'
      exact hnf _ hd3
    have nL : a ≠ X.env.locals := fun z => nfr (List.mem_filterMap.mpr ⟨X.env, List.mem_cons_self, by rw [hf, z]⟩)
    have nF : a ∉ X.fs := fun hm => by
      obtain ⟨e, he, q⟩ := List.mem_filterMap.mp hm
      exact nfr (List.mem_filterMap.mpr ⟨e, List.mem_cons_of_mem _ he, q⟩)
    have S3 := J3.suite he3 hd3 na nL nF
    have LT : PySem.W.Looks (model X.prog X.w) h3 (typeOf (.ref a)) cls := fun A Q E s k q => wpAny_typeOf_ref (k _ _ he3) (by rw [hz3.1]; exact q)
    have test : ∀ {x : Str} {c : Value} {np : Pos} {Q : Value → Shared → Prop} {E : Value → Shared → Prop}, Names X x c → Q c { s' with heap := h3 } → wpAny (model X.prog X.w) (X.A.mark (some (.ref a))) (eval (.Name x np) X.env) Q E { s' with heap := h3 } := fun {x c np Q E} hc q => by
      obtain ⟨hg, hdbg, hm | ⟨hm, hv, hnn⟩⟩ := hc
      · exact ld_glob (X := X.suite a ((a, oe3) :: (X.pn ++ pins))) S3 hg hm q hdbg
      · exact ld_blt (X := X.suite a ((a, oe3) :: (X.pn ++ pins))) S3 hg hm hv q hnn hdbg
    have go : ∀ {hds' : List ExceptHandler} {l' : List ClH}, HdsM X hds' l' → wMM X.K Wout D l' cls d σ' H' → wpAny (model X.prog X.w) X.A (handleBy (.ref a) X.env hds') (SP X pins D) X.xe { s' with heap := h3 } := by
      intro hds' l' hk
      induction hk with
      | nil =>
        intro w
        refine wpAny_handleBy_nil ?_
        obtain ⟨k1, k2, k3, oe, vs, T, oT, ts', he, hz, hd, h1, hr⟩ := id fl3
        unfold PySem.passOn
        refine wpAny_bind (wpAny_field he hd h1 ?_)
        rw [if_neg (show ¬ ((Value.ref T == Value.none) = true) from by simp)]
        have fin : wpAny (model X.prog X.w) X.A (setFlight (.ref a) X.env.frame) (fun _ s4 => wpAny (model X.prog X.w) X.A (throw (.ref a) : Sem Flow) (SP X pins D) X.xe s4) X.xe { s' with heap := h3 } := by
          rw [hf]
          refine HandSPX.setFlight_upZ fl3 fun h4 hh4 up4 => wpAny_throw (tk _ _ ?_)
          exact ⟨a, B, sI, pins, σ', H', cls, d, rfl, J, nb, (up.trans up3).trans up4, .inr (.inr (by rw [hs]; exact hh4)), na, os, ag, w⟩
        first
          | exact wpAny_bind (wpAny_pure (wpAny_bind fin))
          | exact wpAny_bind fin
      | @as x n c i ts b₀ suite np pos' hds2 l2 hc hi hln hsu r ih =>
        intro w
        obtain ⟨b, hb1, hyes, hno⟩ := w
        refine wpAny_handleBy_cons (codeAny_handlers_test ?_) (by intro q; cases q)
        refine test hc ((PySem.W.exm_one (M := model X.prog X.w) (J3.kIn) LT hb1).here ?_)
        cases b with
        | false => exact ih (hno rfl)
        | true =>
          refine codeAny_handlers_suite_as (HandSPX.lands_againZ fl3 fun h4 fl4 up4 => ?_)
          have J4 : Inv X pins σ' H' { s' with heap := h4 } := J.landed nb fl4.1 ((up.trans up3).trans up4) os ag
          obtain ⟨oe4, vs4, he4, hz4, hd4⟩ := fl4.there
          have S4 := J4.suite he4 hd4 na nL nF
          refine store_ok (X := X.suite a ((a, oe4) :: (X.pn ++ pins))) (v := .ref a) S4 hN hi (.inl hln) rfl (fun s5 S5 => ?_) (.inr hln)
          refine wpAny_mono ((hsu a oe4 cls d (X.pn ++ pins) hz4 ⟨_, hd4⟩).run [] s5 _ H' _ S5 (hyes rfl a na)) (fun f s6 hsp => ?_) (fun _ _ z => False.elim z)
          have gone : ∀ {σ6 : L2.St} {H6 : Hp} {Q : Shared → Prop}, Inv (X.suite a ((a, oe4) :: (X.pn ++ pins))) [] σ6 H6 s6 → (∀ s7, Inv X pins (σ6.set i none) H6 s7 → Q s7) →
              wpAny (model X.prog X.w) X.A (do bindName X.env n .none; unbindBehindTheSuite X.env n pos') (fun _ s7 => Q s7) X.xe s6 := fun S6 hq => gone_ok (S6.unsuite ok) hN hi hln hq
          cases f with
          | next =>
            obtain ⟨σ6, H6, S6, q6⟩ := hsp
            exact gone S6 fun s7 J7 => ⟨_, _, J7, q6⟩
          | brk =>
            obtain ⟨σ6, H6, S6, q6⟩ := hsp
            exact gone S6 fun s7 J7 => ⟨_, _, J7, q6⟩
          | cont =>
            obtain ⟨σ6, H6, S6, q6⟩ := hsp
            exact gone S6 fun s7 J7 => ⟨_, _, J7, q6⟩
          | ret u =>
            obtain ⟨v6, σ6, H6, S6, r6, q6⟩ := hsp
            exact gone S6 fun s7 J7 => ⟨_, _, _, J7, r6, q6⟩
      | @no x c ts b₀ suite np pos' hds2 l2 hc hsu r ih =>
        intro w
        obtain ⟨b, hb1, hyes, hno⟩ := w
        refine wpAny_handleBy_cons (codeAny_handlers_test ?_) (by intro q; cases q)
        refine test hc ((PySem.W.exm_one (M := model X.prog X.w) (J3.kIn) LT hb1).here ?_)
        cases b with
        | false => exact ih (hno rfl)
        | true =>
          refine codeAny_handlers_suite (HandSPX.lands_againZ fl3 fun h4 fl4 up4 => ?_)
          have J4 : Inv X pins σ' H' { s' with heap := h4 } := J.landed nb fl4.1 ((up.trans up3).trans up4) os ag
          obtain ⟨oe4, vs4, he4, hz4, hd4⟩ := fl4.there
          have S4 := J4.suite he4 hd4 na nL nF
          refine wpAny_mono ((hsu a oe4 cls d (X.pn ++ pins) hz4 ⟨_, hd4⟩).run [] _ _ H' _ S4 (hyes rfl a na)) (fun f s6 hsp => ?_) (fun _ _ z => False.elim z)
          cases f with
          | next =>
            obtain ⟨σ6, H6, S6, q6⟩ := hsp
            exact ⟨_, _, S6.unsuite ok, q6⟩
          | brk =>
            obtain ⟨σ6, H6, S6, q6⟩ := hsp
            exact ⟨_, _, S6.unsuite ok, q6⟩
          | cont =>
            obtain ⟨σ6, H6, S6, q6⟩ := hsp
            exact ⟨_, _, S6.unsuite ok, q6⟩
          | ret u =>
            obtain ⟨v6, σ6, H6, S6, r6, q6⟩ := hsp
            exact ⟨_, _, _, S6.unsuite ok, r6, q6⟩
    exact go hh w
  · cases f with
    | next =>
      obtain ⟨σ', H', J', q⟩ := hsp
      exact wpAny_execs_nil ⟨σ', H', J'.ofTry ok, q⟩
    | brk =>
      obtain ⟨σ', H', J', q⟩ := hsp
      exact ⟨σ', H', J'.ofTry ok, q⟩
    | cont =>
      obtain ⟨σ', H', J', q⟩ := hsp
      exact ⟨σ', H', J'.ofTry ok, q⟩
    | ret u =>
      obtain ⟨v, σ', H', J', r, q⟩ := hsp
      exact ⟨v, σ', H', J'.ofTry ok, r, q⟩
end
end PL
end
section
set_option Elab.async false
set_option linter.all false
set_option maxRecDepth 100000
set_option maxHeartbeats 4000000
set_option autoImplicit false
/-! P10: what is let out, calls and raises in bodies and in try; try over data. -/
namespace PL
open PySem PySem.Spec PyProof.Rows L2
abbrev EDT := Addr → FX → Ev → Prop
/-- such an exception may leave the code -/
def LetsD (X : Cx) (B : Bd) (Wd : EDT) : Prop := ∃ W : WX, Takes X W ∧ ∀ C fx e F σ H d, Sim (am X B) e F σ H → XRel (cc X B.S) F H d fx → Wd C fx e → W (.ref C) d σ H
section
variable {X : Cx} {B : Bd} {a : Expr} {es : List Expr} {tr : TAD} {ta : TD} {x : Str} {p pos : Pos} {sp : SpD} {k : Nat} {ps : List Str} {Wd : EDT}
theorem lets_no : LetsD X B fun _ _ _ => False := ⟨fun _ _ _ _ => False, takes0, fun _ _ _ _ _ _ _ _ _ z => z⟩
theorem lets_body {E : XK} (tk : Takes X (fun cls d _ H => E cls d H)) : LetsD X B fun C fx e => EdB X B E C fx e.w := ⟨_, tk, fun _ _ _ _ _ _ d s xr w => w d _ _ s.en s.ms xr⟩
theorem LetsD.imp {W' : EDT} (h : LetsD X B Wd) (i : ∀ C fx e, W' C fx e → Wd C fx e) : LetsD X B W' := by
  obtain ⟨W, tk, l⟩ := h
  exact ⟨W, tk, fun C fx e F σ H d s xr w => l C fx e F σ H d s xr (i _ _ _ w)⟩
def dCallL (sp : SpD) (Wd : EDT) (t : TAD) : TD := fun e Q => t e fun w ds => sp ds w Q fun C fx w' => Wd C fx { e with w := w' }
/-- a call -/
theorem px_callL (L : LetsD X B Wd) (h : DOk X.prog X.w X.K X.mg X.base k x ps sp) (ms : SpMono sp) (hr : Room k X.A) (ha : PXA X B (a :: es) tr) (hg : Gl X x := by rfl)
    (hdb : (x == ("__debug__" : Str)) = false := by decide) (he : starEach (a :: es) X.env = (false, eval a X.env) :: starEach es X.env := by rfl) (hpl : (backTo pos (starEach es X.env)).any (·.1) = false := by rfl) :
    PX X B (.Call (.Name x p) (a :: es) [] pos) (dCallL sp Wd tr) := by
  obtain ⟨f, fd, hm, hk, hb, G⟩ := h
  obtain ⟨W, tk, l⟩ := L
  refine ⟨fun e Q Q' i q => ha.mono _ _ _ (fun w ds q => ms _ _ _ _ _ _ (fun w d q => i _ _ q) (fun _ _ _ q => q) q) q, pe_imp (pe_callS (E := WE W) G hr hg hm hk hb (passAt tk) ha.pa hdb he hpl) fun σ H Q q => ?_⟩
  obtain ⟨e, F, s, q⟩ := q
  refine ⟨e, F, s, ha.mono _ _ _ (fun w ds q vs F1 H1 st1 m1 r1 => ?_) q⟩
  exact ⟨B.S, F1, ds, w, st1.h, m1, st1.fm s.ms s.fm, r1, ms _ _ _ _ _ _ (fun w' d q v F' H' st m r => q v F' H' (st1.trans st) m r) (fun C fx w' q d F' H' st m xr => l C fx _ F' σ H' d (s.step (st1.trans st) m) xr q) q⟩
/-- raise nm(e) -/
def dRaiseL (fld : Str) (C : Addr) (Wd : EDT) (t : TD) : TSD := fun _ e => t e fun w x => Wd C (some (fld, x)) { e with w := w }
theorem pxs_raiseL {nm prm fld : Str} {C : Addr} {pos2 : Pos} (L : LetsD X B Wd) (hc : X.calm = true) (T : BadTxt X.prog X.K X.mg nm prm fld C) (hr : Room k X.A) (h : PX X B a ta) (hg : Gl X nm := by rfl) (hdb : (nm == ("__debug__" : Str)) = false := by decide)
    (he : starEach (a :: []) X.env = (false, eval a X.env) :: starEach [] X.env := by rfl) (hpl : (backTo pos (starEach [] X.env)).any (·.1) = false := by rfl) :
    PXS X B (.Raise (some (.Call (.Name nm p) [a] [] pos)) none pos2) (dRaiseL fld C Wd ta) := by
  obtain ⟨W, tk, l⟩ := L
  refine ⟨fun D D' e i q => h.mono _ _ _ (fun _ _ q => q) q, fun P => ps_imp (ps_raise hc tk (pmk_bad T hr (pxa_cons h pxa_nil he).pa hg hdb he hpl)) fun D σ H q => ?_⟩
  obtain ⟨e, F, s, q⟩ := q
  refine ⟨e, F, s.sim, h.mono _ _ _ (fun w x q vs F1 H1 st1 m1 r1 => ?_) q⟩
  cases r1 with
  | cons rv rn =>
    cases rn
    exact ⟨_, rfl, fun d hd => l C (some (fld, x)) _ (upd F1 d _) σ _ (some d) (s.sim.step (st1.trans (Step.new st1.h _ hd)) (m1.sub (Sub.new hd))) ⟨d, _, rfl, upd_same, rv.mono (Sub.new (st1.h.no hd))⟩ q⟩
end
/-! ### try -/
structure ClD where
  c : Value
  i : Option Nat
  ts : Addr → Value → Option Addr → TSD
/-- the token of the exception at a -/
def tokX (a : Addr) (d : Option Addr) (fx : FX) : D := match d, fx with
  | some dx, some (f, x) => exTok a dx f x
  | _, _ => rfTok a
def DFx (d : Option Addr) : FX → Prop
  | none => d = none
  | some _ => ∃ dx, d = some dx
theorem XRel.df {c : Cc} {F H : Hp} {d : Option Addr} {fx : FX} (h : XRel c F H d fx) : DFx d fx := by
  cases fx with
  | none => exact h
  | some p =>
    obtain ⟨f, x⟩ := p
    obtain ⟨dx, v, e, _⟩ := h
    exact ⟨dx, e⟩
theorem XRel.tok {c : Cc} {F H : Hp} {d : Option Addr} {fx : FX} (h : XRel c F H d fx) (a : Addr) : Rp c F (.ref a) (tokX a d fx) := by
  cases fx with
  | none =>
    cases d <;> exact .rf a
  | some p =>
    obtain ⟨f, x⟩ := p
    obtain ⟨dx, v, e, h1, h2⟩ := h
    subst e
    exact .ex h1 h2
def offD (i : Nat) (D : EndsD) : EndsD where
  nx := fun e => D.nx { e with s := e.s.set i .no }
  rt := D.rt
  bk := fun e => D.bk { e with s := e.s.set i .no }
  ct := fun e => D.ct { e with s := e.s.set i .no }
def goD (q : ClD) (a : Addr) (C : Addr) (d : Option Addr) (fx : FX) (D : EndsD) (e : Ev) : Prop := match q.i with
  | none => q.ts a (.ref C) d D e
  | some i => q.ts a (.ref C) d (offD i D) { e with s := e.s.set i (.d (tokX a d fx)) }
def wMD (K : PySem.W.Frag) (Wout : EDT) (D : EndsD) : List ClD → EDT
  | [] => Wout
  | q :: r => fun C fx e => ∃ b, PySem.W.exmOne K (.ref C) q.c = some b ∧ (b = true → ∀ a d, DFx d fx → goD q a C d fx D e) ∧ (b = false → wMD K Wout D r C fx e)
inductive HdsD (X : Cx) (B : Bd) : List ExceptHandler → List ClD → Prop
  | nil : HdsD X B [] []
  | as {x n : Str} {c : Value} (i : Nat) {ts : Addr → Value → Option Addr → TSD} {b₀ : Stmt} {suite : List Stmt} {np pos' : Pos} {hds : List ExceptHandler} {l : List ClD} (hc : Names X x c) (hi : X.N[i]? = some n) (hln : X.env.kindOf n = some .local)
      (hsu : ∀ (a : Addr) (oe : Obj) (cls : Value) (d : Option Addr) (pn : List (Addr × Obj)), Zc cls d oe → (∃ vs, oe.data = .fields vs) → PXSs (X.suite a ((a, oe) :: pn)) B (b₀ :: suite) (ts a cls d)) (r : HdsD X B hds l) :
      HdsD X B (.ExceptHandler (some (.Name x np)) (some n) (b₀ :: suite) pos' :: hds) (⟨c, some i, ts⟩ :: l)
  | no {x : Str} {c : Value} {ts : Addr → Value → Option Addr → TSD} {b₀ : Stmt} {suite : List Stmt} {np pos' : Pos} {hds : List ExceptHandler} {l : List ClD} (hc : Names X x c)
      (hsu : ∀ (a : Addr) (oe : Obj) (cls : Value) (d : Option Addr) (pn : List (Addr × Obj)), Zc cls d oe → (∃ vs, oe.data = .fields vs) → PXSs (X.suite a ((a, oe) :: pn)) B (b₀ :: suite) (ts a cls d)) (r : HdsD X B hds l) :
      HdsD X B (.ExceptHandler (some (.Name x np)) none (b₀ :: suite) pos' :: hds) (⟨c, none, ts⟩ :: l)
section
variable {X : Cx} {B : Bd} {l : List ClD} {hds : List ExceptHandler}
def lowC (X : Cx) (B : Bd) (P : Pins) (q : ClD) : ClH := ⟨q.c, q.i, fun a cls d => liftS (am X B) P (q.ts a cls d)⟩
theorem HdsD.low (P : Pins) (h : HdsD X B hds l) : HdsM X hds (l.map (lowC X B P)) := by
  induction h with
  | nil => exact .nil
  | as i hc hi hln hsu r ih => exact .as hc hi hln (fun a oe cls d pn hz hv => (hsu a oe cls d pn hz hv).ps P) ih
  | no hc hsu r ih => exact .no hc (fun a oe cls d pn hz hv => (hsu a oe cls d pn hz hv).ps P) ih
theorem HdsD.mono (h : HdsD X B hds l) : ∀ q ∈ l, ∀ a cls d, (∃ oe, Zc cls d oe ∧ ∃ vs, oe.data = .fields vs) → MonS (q.ts a cls d) := by
  induction h with
  | nil => exact fun q hq => absurd hq (by simp)
  | as i hc hi hln hsu r ih =>
    intro q hq a cls d ⟨oe, hz, hv⟩
    rcases List.mem_cons.mp hq with rfl | hq
    · exact (hsu a oe cls d [] hz hv).mono
    · exact ih q hq a cls d ⟨oe, hz, hv⟩
  | no hc hsu r ih =>
    intro q hq a cls d ⟨oe, hz, hv⟩
    rcases List.mem_cons.mp hq with rfl | hq
    · exact (hsu a oe cls d [] hz hv).mono
    · exact ih q hq a cls d ⟨oe, hz, hv⟩
theorem offD_le {i : Nat} {D D' : EndsD} (l : D.Le D') : (offD i D).Le (offD i D') := ⟨fun _ q => l.nx _ q, l.rt, fun _ q => l.bk _ q, fun _ q => l.ct _ q⟩
theorem zc_any (cls : Value) (d : Option Addr) : ∃ oe, Zc cls d oe ∧ ∃ vs, oe.data = .fields vs := ⟨{ cls := cls, dict := d, data := .fields #[] }, ⟨rfl, rfl⟩, _, rfl⟩
theorem wMD_mono {K : PySem.W.Frag} {Wout : EDT} {D D' : EndsD} (le : D.Le D') : ∀ {l : List ClD}, (∀ q ∈ l, ∀ a cls d, MonS (q.ts a cls d)) → ∀ {C fx e}, wMD K Wout D l C fx e → wMD K Wout D' l C fx e
  | [], _, _, _, _, h => h
  | q :: r, hm, C, fx, e, ⟨b, h1, h2, h3⟩ => by
    refine ⟨b, h1, fun hb a d hd => ?_, fun hb => wMD_mono le (fun q hq => hm q (List.mem_cons_of_mem _ hq)) (h3 hb)⟩
    have h := h2 hb a d hd
    have mq := hm q List.mem_cons_self
    unfold goD at h ⊢
    cases hi : q.i with
    | none =>
      simp only [hi] at h
      exact mq _ _ _ _ _ _ le h
    | some i =>
      simp only [hi] at h
      exact mq _ _ _ _ _ _ (offD_le le) h
theorem Sim.unset {A : Am} {e : Ev} {F H : Hp} {σ : L2.St} (s : Sim A e F σ H) (i : Nat) : Sim A { e with s := e.s.set i .no } F (σ.set i none) H := by
  have back : ∀ {j : Nat} {z : Sl}, (e.s.set i .no)[j]? = some z → (j = i ∧ z = .no) ∨ (j ≠ i ∧ e.s[j]? = some z) := fun {j z} h => by
    by_cases hj : j = i
    · subst hj
      rw [List.getElem?_set_self (by have := (List.getElem?_eq_some_iff.mp h).1; simpa using this)] at h
      cases h
      exact .inl ⟨rfl, rfl⟩
    · rw [List.getElem?_set_ne (Ne.symm hj)] at h
      exact .inr ⟨hj, h⟩
  have own : ∀ {j : Nat} {as : List D}, (e.s.set i .no)[j]? = some (.own as) → j ≠ i ∧ e.s[j]? = some (.own as) := fun {j as} h => by
    rcases back h with ⟨_, z⟩ | z
    · cases z
    · exact z
  refine ⟨s.fh, s.ms, s.fm, by simp [s.len], fun j z h => ?_, fun j k as bs h1 h2 h3 => ?_, s.en, fun j as p h1 h2 => ?_⟩
  · rcases back h with ⟨rfl, rfl⟩ | ⟨hj, h⟩
    · trivial
    · rw [List.getElem?_set_ne (Ne.symm hj)]
      exact s.rel j z h
  · obtain ⟨n1, g1⟩ := own h1
    obtain ⟨n2, g2⟩ := own h2
    rw [List.getElem?_set_ne (Ne.symm n1), List.getElem?_set_ne (Ne.symm n2)] at h3
    exact s.sep j k as bs g1 g2 h3
  · obtain ⟨n1, g1⟩ := own h1
    rw [List.getElem?_set_ne (Ne.symm n1)] at h2
    exact s.own j as p g1 h2
/-- the block's entry moved on -/
theorem Step.rebase {S : Msh} {F0 H0 F H F' H' : Hp} (s : Step S F0 H0 F H) (n : Step S F H0 F' H') : Step S F0 H0 F' H' := ⟨s.f.trans n.f, n.h, n.k, n.t, fun a q => by
  rcases n.n a q with z | z
  · exact s.n a z
  · exact .inr z⟩
theorem Sim.rebase {c : Cc} {F0 H0 F H F' H' : Hp} {e e' : Ev} {σ σ' : L2.St} (s : Sim ⟨c, F0, H0⟩ e F σ H) (n : Sim ⟨c, F, H0⟩ e' F' σ' H') : Sim ⟨c, F0, H0⟩ e' F' σ' H' := ⟨n.fh, n.ms, n.fm, n.len, n.rel, n.sep, s.en.rebase n.en, n.own⟩
theorem Sim.base0 {c : Cc} {F0 H0 F H : Hp} {e : Ev} {σ : L2.St} (s : Sim ⟨c, F0, H0⟩ e F σ H) : Sim ⟨c, F, H0⟩ e F σ H := ⟨s.fh, s.ms, s.fm, s.len, s.rel, s.sep, ⟨Sub.refl F, s.fh, s.en.k, s.en.t, fun _ q => .inl q⟩, s.own⟩
/-- a frozen heap that the block may be moved on to -/
structure Reb (B : Bd) (F : Hp) : Prop where
  sub : Sub B.F0 F
  new : ∀ a, F a ≠ none → B.F0 a ≠ none ∨ B.H0 a = none
theorem Reb.refl (B : Bd) : Reb B B.F0 := ⟨Sub.refl _, fun _ h => .inl h⟩
theorem Reb.trans {B : Bd} {F G : Hp} (h : Reb B F) (i : Reb ⟨B.S, F, B.H0⟩ G) : Reb B G := ⟨h.sub.trans i.sub, fun a q => by
  rcases i.new a q with z | z
  · exact h.new a z
  · exact .inr z⟩
def dTry (K : PySem.W.Frag) (tb : EDT → TSD) (l : List ClD) (Wout : EDT) : TSD := fun D e => tb (wMD K Wout D l) D e
theorem pxs_try {body : List Stmt} {h₀ : ExceptHandler} {pos : Pos} {tb : EDT → TSD} {Wout : EDT} (hs : X.stack = X.env :: X.outer) (hf : X.env.frame = some X.env.locals) (hN : X.N.Nodup) (L : LetsD X B Wout)
    (hb : ∀ (F : Hp) (Wd : EDT) (pn : List (Addr × Obj)) (xe : Value → Shared → Prop), Reb B F → LetsD (X.tr pn xe) ⟨B.S, F, B.H0⟩ Wd → PXSs (X.tr pn xe) ⟨B.S, F, B.H0⟩ body (tb Wd))
    (mw : ∀ (Wd Wd' : EDT), (∀ C fx e, Wd C fx e → Wd' C fx e) → ∀ D e, tb Wd D e → tb Wd' D e) (mb : ∀ Wd, MonS (tb Wd))
    (hh : HdsD X B (h₀ :: hds) l) : PXS X B (.Try body (h₀ :: hds) [] [] pos) (dTry X.K tb l Wout) := by
  obtain ⟨Wl, tkl, ll⟩ := L
  have ml : ∀ q ∈ l, ∀ a cls d, MonS (q.ts a cls d) := fun q hq a cls d => hh.mono q hq a cls d (zc_any cls d)
  refine ⟨fun D D' e le q => mb _ _ _ _ le (mw _ _ (fun C fx e w => wMD_mono le ml w) _ _ q), fun P => ?_⟩
  refine ps_imp (ps_try_mm (Wout := Wl) (tb := fun W D σ H => ∃ (Wd : EDT) (e : Ev) (F : Hp), (∀ C fx e' F' σ' H' d, Sim ⟨cc X B.S, F, B.H0⟩ e' F' σ' H' → XRel (cc X B.S) F' H' d fx → Wd C fx e' → W (.ref C) d σ' H') ∧ SimP (am X B) P e F σ H ∧ tb Wd (loE (am X B) P D) e)
    hs hf hN tkl (fun W pn xe tk => ?_) (hh.low P)) fun D σ H q => ?_
  · refine ⟨fun pins s σ H D I h => ?_⟩
    obtain ⟨Wd, e, F, lk, sm, h⟩ := h
    have hp := hb F Wd pn xe ⟨sm.sim.en.f, sm.sim.en.n⟩ ⟨W, tk, lk⟩
    refine (hp.ps P).run pins s σ H D I ⟨e, F, ⟨sm.sim.base0, sm.pin⟩, mb _ _ _ _ ⟨fun e' q F' σ' H' s' => ?_, fun w d q v F' H' st m r => ?_, fun e' q F' σ' H' s' => ?_, fun e' q F' σ' H' s' => ?_⟩ h⟩
    · exact q F' σ' H' ⟨sm.sim.rebase s'.sim, s'.pin⟩
    · exact q v F' H' (sm.sim.en.rebase st) m r
    · exact q F' σ' H' ⟨sm.sim.rebase s'.sim, s'.pin⟩
    · exact q F' σ' H' ⟨sm.sim.rebase s'.sim, s'.pin⟩
  · obtain ⟨e, F, s, q⟩ := q
    refine ⟨_, e, F, ?_, s, q⟩
    intro C fx e' F' σ' H' d sm xr w
    have s1 : SimP (am X B) P e' F' σ' H' := ⟨s.sim.rebase sm, fun z hz => (s.pin z hz).mono sm.en.f⟩
    clear hh hb q
    induction l with
    | nil => exact ll C fx e' F' σ' H' d s1.sim xr w
    | cons q r ih =>
      obtain ⟨b, h1, h2, h3⟩ := w
      refine ⟨b, h1, fun hb a ha => ?_, fun hb => ih (fun q hq => ml q (List.mem_cons_of_mem _ hq)) (h3 hb)⟩
      have g := h2 hb a d xr.df
      have mq := ml q List.mem_cons_self
      unfold goD at g
      unfold goH lowC
      cases hi : q.i with
      | none =>
        simp only [hi] at g
        exact ⟨e', F', s1, g⟩
      | some i =>
        simp only [hi] at g
        refine ⟨_, F', ⟨s1.sim.set i (xr.tok a), s1.pin⟩, mq a (.ref C) d (offD i (loE (am X B) P D)) (loE (am X B) P (offE i D)) _ ⟨fun e2 q F2 σ2 H2 s2 => ?_, fun w d q => q, fun e2 q F2 σ2 H2 s2 => ?_, fun e2 q F2 σ2 H2 s2 => ?_⟩ g⟩
        · exact q F2 _ H2 ⟨s2.sim.unset i, s2.pin⟩
        · exact q F2 _ H2 ⟨s2.sim.unset i, s2.pin⟩
        · exact q F2 _ H2 ⟨s2.sim.unset i, s2.pin⟩
end
/-! ### error.f in a suite -/
section
variable {X : Cx} {B : Bd} {C : Addr} {nm prm fld : Str}
def dErr (fld : Str) (C a : Addr) (cls : Value) (d : Option Addr) (te : TD) : TD := fun e Q => te e fun w y => ∃ dx x, cls = .ref C ∧ d = some dx ∧ y = exTok a dx fld x ∧ Q w x
theorem px_err {a : Addr} {oe : Obj} {cls : Value} {d : Option Addr} {pn : List (Addr × Obj)} {e : Expr} {te : TD} {pos : Pos} (T : BadTxt X.prog X.K X.mg nm prm fld C) (hz : Zc cls d oe) (hf : ∃ vs, oe.data = .fields vs) (he : PX (X.suite a ((a, oe) :: pn)) B e te)
    (hb : attributeBase e fld X.env (eval e X.env) = eval e X.env := by rfl) : PX (X.suite a ((a, oe) :: pn)) B (.Attribute e fld pos) (dErr fld C a cls d te) := by
  refine ⟨fun e Q Q' i q => he.mono _ _ _ (fun w y ⟨dx, x, h1, h2, h3, q⟩ => ⟨dx, x, h1, h2, h3, i _ _ q⟩) q, ⟨fun pins s σ H Q I h => ?_⟩⟩
  obtain ⟨ev, F, sm, h⟩ := h
  refine attr_of hb (thn (he.pe.run pins s σ H (fun u H1 => ∃ dx v, u = .ref a ∧ cls = .ref C ∧ d = some dx ∧ H1 dx = some (.xd [(fld, v)]) ∧ Q v H1) I ⟨ev, F, sm, he.mono _ _ _ (fun w y q v F1 H1 st1 m1 r1 => ?_) h⟩) fun u s1 hh => ?_)
  · obtain ⟨dx, x, ec, ed, ey, q⟩ := q
    subst ey
    unfold exTok at r1
    cases r1 with
    | ex h1 h2 => exact ⟨dx, _, rfl, ec, ed, st1.h _ _ h1, q _ F1 H1 st1 m1 h2⟩
  · obtain ⟨x, H1, I1, rx, dd, v, ex, ec, ed, ea, q⟩ := hh
    subst ex
    obtain rfl : u = Value.ref a := rx
    subst ec
    subst ed
    obtain ⟨ha, _⟩ := I1.pin (a, oe) (List.mem_append_left _ List.mem_cons_self)
    obtain ⟨vs, hd⟩ := hf
    obtain ⟨mA, hns, hr⟩ := (I1.hok dd _ ea : ObjOk X.prog X.w H1 s1.heap dd (.xd [(fld, v)]))
    obtain ⟨od, ho, hl⟩ := lookIn_ns hns
    obtain ⟨u, hu, ru⟩ := RelO.some_of (v := v) (o := mA fld) (by rw [← (show List.lookup fld [(fld, v)] = some v by simp [List.lookup])]; exact hr fld)
    have J : PySem.W.InstAt s1.heap a oe C (some od) := ⟨ha, hz.1, by unfold PySem.W.notCls; rw [hd] <;> rfl, by rw [hz.2]; exact ho⟩
    exact HandSPX.exc_get I1.kIn J T.ga T.gg T.exC (PySem.W.findObj_own T.hdC T.noN rfl (by rw [hl, hu])) (handed_of ru) ⟨v, H1, I1.tok _, ru, q⟩
end
end PL
end
section
set_option Elab.async false
set_option linter.all false
set_option maxRecDepth 100000
set_option maxHeartbeats 4000000
set_option autoImplicit false
/-! P11: lambdas handed to a def that calls them, over data. -/
namespace PL
open PySem PySem.Spec PyProof.Rows L2 LamX
/-- a heap in which a table grew and a code object is new -/
structure Grown (P : Addr) (H H' : Hp) : Prop where
  keep : ∀ b o, b ≠ P → H b = some o → H' b = some o
  there : ∀ b, H b ≠ none → H' b ≠ none
theorem Grown.refl (P : Addr) (H : Hp) : Grown P H H := ⟨fun _ _ _ e => e, fun _ e => e⟩
abbrev lamQ (X : Cx) : Str := X.env.qual ++ "<lambda>"
abbrev lamFd (X : Cx) (params : Arguments) (body : Expr) (scope : Scope) (dV doc pm : Value) (c' : Addr) (ctv : Value) : FuncData := PySem.W.kdv_fn "<lambda>" (lamQ X) params (.expr body) scope (cloFrom X.env.cells scope.names []) dV doc pm (.ref c') ctv
section
variable {X : Cx} {pins : List (Addr × Obj)} {σ : L2.St} {H : Hp} {s : Shared}
theorem new_nofr (I : Inv X pins σ H s) {f : Addr} (hf : s.heap.objs.size ≤ f) : f ∉ frs X.stack := fun z => by
  rcases List.mem_cons.mp (I.stkSub _ z) with e | e
  · have h1 := I.lt
    rw [← e] at h1
    exact Nat.lt_irrefl _ (Nat.lt_of_lt_of_le h1 hf)
  · exact I.nofs hf e
/-- the function object is made: its code object is new, or found in the table -/
theorem lam_tail {T : List (Addr × Str)} {c P : Addr} {params : Arguments} {body : Expr} {scope : Scope} {pos : Pos} {dV : Value} {E : Value → Shared → Prop} {Q : Value → Shared → Prop} (I : Inv X pins σ H s) (TB : TabB X.base X.mg c P) (hcode : X.env.code = .ref c)
    (hm : (P, lamQ X) ∈ T) (hu : ∀ p ∈ T, p.1 = P → p.2 = lamQ X) (hT : Tabs T H) (hfree : ∀ y ∈ scope.names, y.2 = .free → ∃ c, X.env.cells.lookup y.1 = some c)
    (h : ∀ (f c' : Addr) (doc pm ctv : Value) (H1 : Hp) (s' : Shared), Inv X pins σ H1 s' → Grown P H H1 → Tabs T H1 → (∀ b o, H1 b = none → s.heap.get? b = some o → s'.heap.get? b = some o) →
      s'.heap.get? f = some { cls := .type "function", data := .func (lamFd X params body scope dV doc pm c' ctv) } → s.heap.objs.size ≤ f → H1 f = none → f ∉ frs X.stack → H1 c' = some (CodeO c' (lamQ X)) → (∀ b, b < s.heap.objs.size → H b = none → H1 b = none) → Q (.ref f) s') :
    wpAny (model X.prog X.w) X.A (makeTail "<lambda>" (lamQ X) params (.expr body) scope X.env dV .none none pos pos.line) Q E s := by
  obtain ⟨ps, hP, ht, ha⟩ := hT _ hm
  have bP : s.heap.BuiltinsAt X.mg P := TB.bm.keeps I.bk
  have hP' : s.heap.get? P = some { cls := .none, data := .fields ps } := I.hok P _ hP
  cases hc : codeAmong pos ps.toList with
  | none =>
    refine PySem.W.kdv_makeTail (mg := X.mg) (c := c) (P := P) (ps := ps) (closure_ok hfree) I.ok.glob (I.mod.glob.keeps I.bk) hcode (TB.code.keeps I.bk) hP' ht hc TB.gP bP fun c' ctv doc h' tk hx hge hlt hrec htb => ?_
    obtain ⟨c2, oc, vs, t, e2, hoc, hd, hv⟩ := hrec
    cases e2
    have hsz : s.heap.objs.size ≤ h'.objs.size := Nat.le_trans hge (Nat.le_of_lt hlt)
    have nC : H c' = none := I.hok.fresh hge
    have nPc : P ≠ c' := ne_of_none hP nC
    have I1 := inv_table (t' := tk) (more := #[rawInt pos.line, rawInt pos.col, .ref c']) (h' := h'.push { cls := .type "function", data := .func (lamFd X params body scope dV doc ((X.mg "__name__").getD .none) c' ctv) }) I hP
      (fun b o hb e => Heap.get?_push_of_some _ (hx b o hb e)) (Heap.get?_push_of_some _ htb) hge ⟨oc, vs, t, Heap.get?_push_of_some _ hoc, hd, hv⟩
    have hE : ∀ b o, b ≠ P → H b = some o → upd (upd H P (.tbl (ps ++ #[rawInt pos.line, rawInt pos.col, .ref c']))) c' (CodeO c' (lamQ X)) b = some o := fun b o hb e => by
      rw [upd_ne (ne_of_none e nC), upd_ne hb]
      exact e
    have atP : upd (upd H P (.tbl (ps ++ #[rawInt pos.line, rawInt pos.col, .ref c']))) c' (CodeO c' (lamQ X)) P = some (.tbl (ps ++ #[rawInt pos.line, rawInt pos.col, .ref c'])) := by rw [upd_ne nPc, upd_same]
    have codeNP : ∀ c0, H c0 = some (CodeO c0 (lamQ X)) → c0 ≠ P := fun c0 e z => by
      rw [z, hP] at e
      exact codeO_ne _ (Option.some.inj e).symm
    have eL : (ps ++ #[rawInt pos.line, rawInt pos.col, .ref c']).toList = ps.toList ++ [rawInt pos.line, rawInt pos.col, .ref c'] := by simp
    have nP : ∀ b, H b = none → b ≠ P := fun b e z => by
      rw [z, hP] at e
      cases e
    refine h h'.objs.size c' doc ((X.mg "__name__").getD .none) ctv _ _ I1 ⟨hE, fun b e => ?_⟩ (fun p hp => ?_) (fun b o e q => Heap.get?_push_of_some _ (hx b o (fun z => ?_) q)) (Heap.get?_push_size _ rfl) hsz ?_ (new_nofr I hsz) upd_same (fun b hb e => ?_)
    · by_cases hb : b = P
      · rw [hb, atP]; simp
      · cases z : H b with
        | none => exact absurd z e
        | some o => rw [hE b o hb z]; simp
    · by_cases hb : p.1 = P
      · rw [hu p hp hb, hb]
        refine ⟨_, atP, by rw [eL]; exact PySem.TriplesOk_snoc _ _ _ _ ht, fun p' cv hcv => ?_⟩
        rw [eL] at hcv
        rcases among_app _ ht hcv with z | z
        · obtain ⟨c0, e1, e2⟩ := ha p' cv z
          exact ⟨c0, e1, hE _ _ (codeNP c0 e2) e2⟩
        · exact ⟨c', z, upd_same⟩
      · obtain ⟨ps', a1, a2, a3⟩ := hT p hp
        refine ⟨ps', hE _ _ hb a1, a2, fun p' cv hcv => ?_⟩
        obtain ⟨c0, e1, e2⟩ := a3 p' cv hcv
        refine ⟨c0, e1, hE _ _ (fun z => ?_) e2⟩
        rw [z, hP] at e2
        exact codeO_ne _ (Option.some.inj e2).symm
    · rw [z, atP] at e
      cases e
    · rw [upd_ne (Nat.ne_of_gt hlt), upd_ne (Nat.ne_of_gt (Nat.lt_of_lt_of_le (Heap.lt_size hP') hsz))]
      exact I.hok.fresh hsz
    · rw [upd_ne (Nat.ne_of_lt (Nat.lt_of_lt_of_le hb hge)), upd_ne (nP b e)]
      exact e
  | some cv =>
    obtain ⟨c', e, hco⟩ := ha pos cv hc
    subst e
    refine PySem.W.kdv_makeTailHit (mg := X.mg) (c := c) (P := P) (ps := ps) (closure_ok hfree) I.ok.glob (I.mod.glob.keeps I.bk) hcode (TB.code.keeps I.bk) hP' ht hc bP fun ctv doc h' tk hx hsz => ?_
    have I1 : Inv X pins σ H { s with heap := h'.push { cls := .type "function", data := .func (lamFd X params body scope dV doc ((X.mg "__name__").getD .none) c' ctv) }, toks := tk } := I.kept fun b o e => Heap.get?_push_of_some _ (hx b o e)
    exact h h'.objs.size c' doc ((X.mg "__name__").getD .none) ctv H _ I1 (Grown.refl P H) hT (fun b o _ q => Heap.get?_push_of_some _ (hx b o q)) (Heap.get?_push_size _ rfl) hsz (I.hok.fresh hsz) (new_nofr I hsz) hco (fun b _ e => e)
/-- the lambda's parameters: none, or one with a number -/
def LamP (params : Arguments) : Option Str → Prop
  | none => ∀ env, defaultsOf params env = ([], [])
  | some _ => ∃ z j q, params.defaults = [.Constant (.int z) j q] ∧ params.kw_defaults = []
/-- its defaults as they lie -/
def DefAt (h : Heap) (H : Hp) (fs : List Addr) (dV : Value) : Option Str → Option Value → Prop
  | none, dv => dV = .none ∧ dv = none
  | some _, dv => ∃ t v, dv = some v ∧ dV = .ref t ∧ h.get? t = some (PySem.W.kdv_tup [v]) ∧ H t = none ∧ t ∉ fs
theorem lam_mk {T : List (Addr × Str)} {c P : Addr} {params : Arguments} {prm : Option Str} {body : Expr} {scope : Scope} {pos : Pos} {E : Value → Shared → Prop} {Q : Value → Shared → Prop} (I : Inv X pins σ H s) (TB : TabB X.base X.mg c P) (hcode : X.env.code = .ref c)
    (hm : (P, lamQ X) ∈ T) (hu : ∀ p ∈ T, p.1 = P → p.2 = lamQ X) (hT : Tabs T H) (hp : LamP params prm) (hfree : ∀ y ∈ scope.names, y.2 = .free → ∃ c, X.env.cells.lookup y.1 = some c)
    (h : ∀ (f c' : Addr) (dV doc pm ctv : Value) (dv : Option Value) (H1 : Hp) (s' : Shared), Inv X pins σ H1 s' → Grown P H H1 → Tabs T H1 → DefAt s'.heap H1 (frs X.stack) dV prm dv →
      s'.heap.get? f = some { cls := .type "function", data := .func (lamFd X params body scope dV doc pm c' ctv) } → H1 f = none → f ∉ frs X.stack → H1 c' = some (CodeO c' (lamQ X)) → Q (.ref f) s') :
    wpAny (model X.prog X.w) X.A (eval (.Lambda params body scope pos) X.env) Q E s := by
  cases prm with
  | none =>
    refine PySem.W.kla_eval (hp _) ?_
    rw [makeFunction_eq]
    simp only [List.zip_nil_right, List.filterMap_nil, List.isEmpty_nil, if_true, pure_bind]
    exact lam_tail I TB hcode hm hu hT hfree fun f c' doc pm ctv H1 s' I1 g t k hf _ hn hfr hc _ => h f c' _ doc pm ctv none H1 s' I1 g t ⟨rfl, rfl⟩ hf hn hfr hc
  | some y =>
    obtain ⟨z, j, q, hd, hk⟩ := hp
    refine PySem.W.kdv_lam (by rw [hd]; rfl) hk ?_
    rw [hd]
    refine PySem.W.kdv_all1 (wpAny_Constant_int (PySem.W.kdv_all0 ?_))
    rw [makeFunction_eq]
    simp only [List.zip_nil_right, List.filterMap_nil, List.isEmpty_nil, List.isEmpty_cons, Bool.false_eq_true, if_false, if_true, pure_bind]
    refine wpAny_bind (wpAny_newTextTuple ?_)
    have k0 : ∀ b o, s.heap.get? b = some o → (s.heap.push (PySem.W.kdv_tup [Value.int z s.toks])).get? b = some o := fun b o e => Heap.get?_push_of_some _ e
    have I0 : Inv X pins σ H { s with heap := s.heap.push (PySem.W.kdv_tup [Value.int z s.toks]), toks := s.toks + 1 } := I.kept k0
    refine lam_tail (s := { s with heap := s.heap.push (PySem.W.kdv_tup [Value.int z s.toks]), toks := s.toks + 1 }) I0 TB hcode hm hu hT hfree fun f c' doc pm ctv H1 s' I1 g t k hf _ hn hfr hc old => ?_
    have n1 : H1 s.heap.objs.size = none := old _ (by show s.heap.objs.size < (s.heap.push _).objs.size; rw [Heap.size_push]; omega) (I.hok.fresh (Nat.le_refl _))
    exact h f c' _ doc pm ctv (some _) H1 s' I1 g t ⟨_, _, rfl, rfl, k _ _ n1 (Heap.get?_push_at rfl rfl), n1, new_nofr I (Nat.le_refl _)⟩ hf hn hfr hc
end
/-- the lambda's names: its parameter, captured ones, globals -/
structure LamSc (N : List Str) (sc scope : Scope) (prm : Option Str) : Prop where
  kind : scope.kind = .function
  co : scope.isCoroutine = false
  gen : scope.isGenerator = false
  own : ∀ y ∈ scope.names, y.2 ≠ .cell ∧ (y.2 = .local → prm = some y.1)
  prmL : ∀ y, prm = some y → scope.names.lookup y = some .local ∧ y ∉ N
  free : ∀ y ∈ scope.names, y.2 = .free → sc.names.lookup y.1 = some .cell ∨ sc.names.lookup y.1 = some .free
def lamScB (N : List Str) (sc scope : Scope) (prm : Option Str) : Bool :=
  decide (scope.kind = .function) && !scope.isCoroutine && !scope.isGenerator && (scope.names.all fun y => !decide (y.2 = .cell) && (!decide (y.2 = .local) || decide (prm = some y.1)) && (!decide (y.2 = .free) || decide (sc.names.lookup y.1 = some .cell) || decide (sc.names.lookup y.1 = some .free))) &&
    match prm with
    | none => true
    | some y => decide (scope.names.lookup y = some .local) && decide (y ∉ N)
theorem lamSc_by {N : List Str} {sc scope : Scope} {prm : Option Str} (h : lamScB N sc scope prm = true) : LamSc N sc scope prm := by
  unfold lamScB at h
  simp only [Bool.and_eq_true, Bool.or_eq_true, Bool.not_eq_true', decide_eq_true_eq, decide_eq_false_iff_not, List.all_eq_true] at h
  obtain ⟨⟨⟨⟨h1, h2⟩, h3⟩, h4⟩, h5⟩ := h
  refine ⟨h1, h2, h3, fun y hy => ⟨(h4 y hy).1.1, fun e => ?_⟩, fun y e => ?_, fun y hy e => ?_⟩
  · rcases (h4 y hy).1.2 with z | z
    · exact absurd e z
    · exact z
  · subst e
    simpa using h5
  · rcases (h4 y hy).2 with (z | z) | z
    · exact absurd e z
    · exact .inl z
    · exact .inr z
theorem LamSc.has {X : Cx} {N : List Str} {scope : Scope} {prm : Option Str} (L : LamSc N X.env.scope scope prm) (ok : X.Ok) : ∀ y ∈ scope.names, y.2 = .free → ∃ c, X.env.cells.lookup y.1 = some c := fun y hy e => by
  rcases L.free y hy e with k | k
  · exact ok.has _ (.inl k)
  · exact ok.has _ (.inr k)
def bindsOf : Option Str → Option Value → List (Str × Value)
  | some y, some v => [(y, v)]
  | _, _ => []
section
variable {X : Cx} {pins : List (Addr × Obj)} {σ : L2.St} {H HZ : Hp} {s s1 : Shared}
theorem lam_start3 {A : Around} {outer : List Env} {E : XK} {scope : Scope} {prm : Option Str} {f c' : Addr} {h₁ : Heap} {tk : Nat} {m₁ : Str → Option Value} (I : Inv X pins σ H s) (L : LamSc X.N X.env.scope scope prm) (e0 : Env0 X.prog X.w X.K X.mg X.base A outer s1 HZ) (hd : A.handled = none)
    (un : Un (frs X.stack) [] H HZ s.heap s1.heap) (hns : h₁.Ns s1.heap.objs.size m₁) (kp : ∀ b o, s1.heap.get? b = some o → h₁.get? b = some o) :
    Inv (lamCx X A outer s1 HZ E scope f c') [] σ HZ { s1 with heap := h₁, toks := tk } := by
  have hfree := L.has I.ok
  have cm : ∀ {y c}, (cloFrom X.env.cells scope.names []).lookup y = some c → X.env.cells.lookup y = some c := fun {y c} e => by
    rcases cloFrom_mem (PySem.mem_of_lookup e) with hm | ⟨h1, h2⟩
    · cases hm
    · obtain ⟨c1, hc⟩ := hfree _ h1 rfl
      have hc : X.env.cells.lookup y = some c1 := hc
      have e2 : c = c1 := by
        rw [h2, hc] <;> rfl
      rw [e2]
      exact hc
  have look : ∀ {y}, scope.names.lookup y = some .free → ∃ c, (cloFrom X.env.cells scope.names []).lookup y = some c := fun {y} hl => by
    have hy : (y, NameKind.free) ∈ scope.names := PySem.mem_of_lookup hl
    exact mem_lookup (cloFrom_has (cells := X.env.cells) (acc := []) hy)
  have cellK : ∀ {c : Addr} {v : Option Value}, H c = none → s.heap.IsCell c v → h₁.IsCell c v := fun {c v} n ⟨o, ho, hd⟩ => by
    obtain ⟨sl, q⟩ := un.any ho n (by simp)
    exact ⟨_, kp _ _ q, hd⟩
  have noA : ∀ b : Addr, b ∉ (lamCx X A outer s1 HZ E scope f c').ex := fun b z => absurd (show b ∈ ([] : List Addr) from z) (by simp)
  refine ⟨⟨e0.mod, L.kind, rfl, rfl, Nat.le_refl _, fun y z c e1 e2 => I.ok.inj y z c (cm e1) (cm e2), fun y hy => ?_, fun y c z _ => ?_, fun _ => hd, Around.frames_deeper e0.frames, .inr ⟨rfl, rfl⟩, fun b z => absurd z (noA b), e0.bs, e0.bsz, fun b _ _ => noA b,
      fun b z => absurd z (noA b), e0.funs, e0.frf⟩,
    rfl, e0.bare, Un.kept kp, ⟨_, hns, fun i y v e1 e2 e3 => ?_⟩, fun y c e => ?_, e0.hok.fresh (Nat.le_refl _), fun y c e => ?_, fun q hq => absurd (show q ∈ ([] : List (Addr × Obj)) ++ [] from hq) (by simp), e0.hok.kept kp, I.len⟩
  · have hy : scope.names.lookup y = some .cell ∨ scope.names.lookup y = some .free := hy
    rcases hy with hy | hy
    · exact absurd rfl (L.own _ (PySem.mem_of_lookup hy)).1
    · exact look hy
  · have z : false = true := z
    cases z
  · have e3 : Vis scope y := e3
    have e1' : X.N[i]? = some y := e1
    rcases e3 with k | k | k
    · have q := (L.own _ (PySem.mem_of_lookup k)).2 rfl
      exact absurd (List.mem_of_getElem? e1') (L.prmL _ q).2
    · exact absurd rfl (L.own _ (PySem.mem_of_lookup k)).1
    · obtain ⟨m, hn, hl⟩ := I.loc
      have hvis : Vis X.env.scope y := (L.free _ (PySem.mem_of_lookup k) rfl).elim (fun k => .inr (.inl k)) (fun k => .inr (.inr k))
      obtain ⟨w', r, q⟩ := hl i y v e1 e2 hvis
      obtain ⟨c2, h2⟩ := look k
      refine ⟨w', r, .inr ⟨.inr k, c2, h2, ?_⟩⟩
      have c1 := cm h2
      rcases q with ⟨k', _⟩ | ⟨_, c3, e', z⟩
      · have k' : X.env.scope.names.lookup y = some .local := k'
        rcases L.free _ (PySem.mem_of_lookup k) rfl with k2 | k2 <;> rw [show X.env.scope.names.lookup y = _ from k2] at k' <;> cases k'
      · rw [c1] at e'
        cases e'
        exact cellK (I.freeC y _ c1) z
  · obtain ⟨w', z⟩ := I.cell y c (cm e)
    exact ⟨w', cellK (I.freeC y c (cm e)) z⟩
  · obtain ⟨v, o, ho, hd⟩ := I.cell y c (cm e)
    exact un.free c o ho (I.freeC y c (cm e)) (by simp)
/-- the lambda called by the def that got it (its context Z was entered at s) -/
theorem pe_act3 {Ng : List Str} {qg : Str} {sg : Scope} {g f c' : Addr} {cdg dV doc pm ctv : Value} {dv : Option Value} {params : Arguments} {prm : Option Str} {body : Expr} {scope : Scope} {k i : Nat} {a : Str} {pn : List (Addr × Obj)} {xe : Value → Shared → Prop} {W : WX} {tb : Hp → XK → TE} {p1 p2 : Pos}
    (I : Inv X pins σ H s) (L : LamSc X.N X.env.scope scope prm) (hf : s.heap.get? f = some { cls := .type "function", data := .func (lamFd X params body scope dV doc pm c' ctv) }) (hfn : H f = none) (hfr : f ∉ frs X.stack) (hD : DefAt s.heap H (frs X.stack) dV prm dv)
    (hbind : ∀ (s : Shared), (∀ t, dV = .ref t → ∃ v, dv = some v ∧ s.heap.get? t = some (PySem.W.kdv_tup [v])) → BindsTo s (lamFd X params body scope dV doc pm c' ctv) ⟨[], []⟩ (bindsOf prm dv))
    (tk : Takes ((cxOf C8.CX0 X.prog X.w X.K X.mg X.base Ng qg sg g cdg X.A X.stack s H C8.E0).tr pn xe) W) (hr : Room (k + 1) (X.A.deeper (envOfC qg sg s.heap.objs.size g cdg)))
    (hbody : ∀ (A : Around) (outer : List Env) (s : Shared) (H : Hp) (E : XK), Room k (A.deeper (lamEnv X scope s.heap.objs.size f c')) → PE (lamCx X A outer s H E scope f c') body (tb H E))
    (hN : Ng[i]? = some a) (hv : Vis sg a) (hd : (a == ("__debug__" : Str)) = false := by decide) (hcd : (a == ("__classdict__" : Str)) = false := by decide) :
    PE ((cxOf C8.CX0 X.prog X.w X.K X.mg X.base Ng qg sg g cdg X.A X.stack s H C8.E0).tr pn xe) (.Call (.Name a p1) [] [] p2)
      (fun σZ HZ Q => σZ[i]? = some (some (.ref f)) ∧ HZ c' = some (CodeO c' (lamQ X)) ∧ ∃ E : XK, (∀ cls d H', E cls d H' → W cls d σZ H') ∧ tb HZ E σ HZ Q) := by
  refine ⟨fun pinsZ sZ σZ HZ Q IZ h => ?_⟩
  obtain ⟨hs, hc, E, hW, ht⟩ := h
  refine wpAny_Call_Name_kw (thn ((pe_var (pos := p1) (i := i) hN hv hd hcd).run pinsZ sZ σZ HZ (fun v H1 => v = .ref f ∧ H1 = HZ) IZ ⟨.ref f, hs, rfl, rfl⟩) fun u s1 ⟨v, H1, I1, r1, q1⟩ => ?_)
  obtain ⟨ev, eH⟩ := q1
  subst ev
  rw [eH] at I1
  obtain rfl : u = Value.ref f := r1
  have un : Un (frs X.stack) [] H HZ s.heap s1.heap := I1.base
  have kept : ∀ b o, s.heap.get? b = some o → H b = none → b ∉ frs X.stack → s1.heap.get? b = some o := fun b o e n m => I1.base.keep b o e n m (fun z => nomatch (show b ∈ ([] : List Addr) from z))
  have of1 := kept f _ hf hfn hfr
  refine PySem.W.callWith_F0 ⟨_, _, _, _, of1⟩ ?_
  obtain ⟨⟨oc, vs, t, hoc, hdc, hvc⟩, _, _⟩ := I1.hok c' _ hc
  have rc : codeAny (model X.prog X.w) (X.A.deeper (envOfC qg sg s.heap.objs.size g cdg)) (.call (.ref f) ⟨[], []⟩) (CR (L2.CX X.prog X.w) (envOfC qg sg s.heap.objs.size g cdg :: X.stack) X.prog X.w HZ s1 Q E) s1 := by
    refine PySem.W.kla_callFunE hr.depth of1 rfl L.co L.gen rfl ⟨c', oc, vs, t, rfl, hoc, hdc, hvc⟩ ?_
    refine hbind s1 (fun t ht => ?_) _ _ _ _ ?_
    · cases prm with
      | none =>
        rw [hD.1] at ht
        cases ht
      | some y =>
        obtain ⟨t', v, e1, e2, e3, e4, e5⟩ := hD
        rw [e2] at ht
        cases ht
        exact ⟨v, e1, kept _ _ e3 e4 e5⟩
    refine wpAny_newFunctionEnv (fun y hy => (L.own y hy).1) (fun y hy => ?_) (fun h₁ hns hsb => ⟨I1.nolimit.fresh _ hsb, ?_⟩) L.kind
    · unfold bindsOf at hy
      split at hy
      · simp only [List.mem_cons, List.not_mem_nil, or_false] at hy
        subst hy
        exact (L.prmL _ rfl).1
      · exact absurd hy (by simp)
    · show codeAny _ _ (.expr body (lamEnv X scope s1.heap.objs.size f c')) _ _
      have kp : ∀ b o, s1.heap.get? b = some o → h₁.get? b = some o := fun b o e => hsb.extBut b o (Nat.ne_of_lt (Heap.lt_size e)) (Heap.get?_push_of_some _ e)
      have J : Inv (lamCx X (X.A.deeper (envOfC qg sg s.heap.objs.size g cdg)) (envOfC qg sg s.heap.objs.size g cdg :: X.stack) s1 HZ E scope f c') [] σ HZ { s1 with heap := h₁, toks := s1.toks + (bindsOf prm dv).length } :=
        lam_start3 I L I1.env0 hr.hd un hns kp
      refine PySem.W.kla_codeExpr (wpAny_mono ((hbody _ _ s1 HZ E (hr.deeper _)).run [] _ _ HZ Q J ht) (fun v s' hq => ?_) fun e s' hq => hq)
      obtain ⟨w', H', J', rv, q⟩ := hq
      exact ⟨w', H', J'.os, J'.bare, J'.base, J'.hok, rv, q⟩
  refine wpAny_call (codeAny_mono rc fun r s' hq => ?_)
  cases r with
  | error e => exact tk e s' (XE.of_call I1 (fun cls d H' h => hW cls d H' h) hq)
  | ok fl =>
    cases fl with
    | ret u => exact I1.after hq
    | next => exact False.elim hq
    | brk => exact False.elim hq
    | cont => exact False.elim hq
end
/-! ### over data -/
abbrev Tau := Nat → (Nat → D → Prop) → ED → Prop
def MonTau (τ : Tau) : Prop := ∀ w Q Q' E E', (∀ w d, Q w d → Q' w d) → (∀ C fx w, E C fx w → E' C fx w) → τ w Q E → τ w Q' E'
/-- the call of what was got, in slot 0 -/
def dThunk (f : Addr) (τ : Tau) (Wd : EDT) : TD := fun e Q => e.s[0]? = some (.d (rfTok f)) ∧ τ e.w Q fun C fx w' => Wd C fx { e with w := w' }
def maskS : Sl → Sl
  | .own _ => .no
  | z => z
def mask (l : List Sl) : List Sl := l.map maskS
theorem Sim.masked {c : Cc} {F0 H0 F H : Hp} {e : Ev} {σ : L2.St} (s : Sim ⟨c, F0, H0⟩ e F σ H) : Sim ⟨c, F, H⟩ ⟨mask e.s, e.w⟩ F σ H := by
  have noown : ∀ {i : Nat} {xs : List D}, (mask e.s)[i]? = some (.own xs) → False := fun {i xs} h => by
    unfold mask at h
    rw [List.getElem?_map] at h
    cases z : e.s[i]? with
    | none => rw [z] at h; cases h
    | some y =>
      rw [z] at h
      cases y <;> cases h
  refine ⟨s.fh, s.ms, s.fm, by simp [mask, s.len], fun i z h => ?_, fun i j xs ys h => (noown h).elim, Step.refl s.fh, fun i xs p h => (noown h).elim⟩
  unfold mask at h
  rw [List.getElem?_map] at h
  cases q : e.s[i]? with
  | none => rw [q] at h; cases h
  | some y =>
    rw [q] at h
    have r := s.rel i y q
    cases y with
    | no => cases h; trivial
    | own xs => cases h; trivial
    | d x => cases h; exact r
/-- x(lambda): what x makes of the lambda's reading -/
def dGive (spG : Tau → Nat → (Nat → D → Prop) → Prop) (tb : ED → TD) : TD := fun e Q => spG (fun w' Q' E' => tb E' ⟨mask e.s, w'⟩ Q') e.w Q
def GivesD (X : Cx) (S : Msh) (k : Nat) (Ng : List Str) (x : Str) (st : Stmt) (a : Str) (spG : Tau → Nat → (Nat → D → Prop) → Prop) : Prop :=
  ∀ (g : Addr) (cdg : Value) (f : Addr) (s : Shared) (F H : Hp) (τ : Tau), MonTau τ → Room k (X.A.deeper (envOfC x (defScope st) s.heap.objs.size g cdg)) →
    (∀ (G : Hp) (pn : List (Addr × Obj)) (xe : Value → Shared → Prop) (Wd : EDT) (p1 p2 : Pos), Reb ⟨S, F, H⟩ G → LetsD ((cxOf C8.CX0 X.prog X.w X.K X.mg X.base Ng x (defScope st) g cdg X.A X.stack s H C8.E0).tr pn xe) ⟨S, G, H⟩ Wd →
      PX ((cxOf C8.CX0 X.prog X.w X.K X.mg X.base Ng x (defScope st) g cdg X.A X.stack s H C8.E0).tr pn xe) ⟨S, G, H⟩ (.Call (.Name a p1) [] [] p2) (dThunk f τ Wd)) →
    ∃ t, PXSs (cxOf C8.CX0 X.prog X.w X.K X.mg X.base Ng x (defScope st) g cdg X.A X.stack s H C8.E0) ⟨S, F, H⟩ (defBody st) t ∧ ∀ n Q, spG τ n Q → t (retD Q) ⟨startD Ng [rfTok f], n⟩
theorem MSt.grown {S : Msh} {w : Nat} {P : Addr} {H H1 : Hp} (m : MSt S w H) (g : Grown P H H1) (t : Tabs S.T H1) (hP : ∃ ps, H P = some (.tbl ps)) : MSt S w H1 := by
  obtain ⟨ps, hP⟩ := hP
  have ne : ∀ {b : Addr} {o : HO}, H b = some o → (∀ ps, o ≠ .tbl ps) → H1 b = some o := fun {b o} e n => g.keep b o (fun z => by
    rw [z, hP] at e
    exact n ps (Option.some.inj e).symm) e
  refine ⟨fun q e => ?_, t⟩
  obtain ⟨n, cells, great, spot, h1, h2, h3, h4, h5, h6, h7⟩ := m.1 q e
  exact ⟨n, cells, great, spot, ne h1 (fun _ z => by cases z), ne h2 (fun _ z => by cases z), h3, h4, ne h5 (fun _ z => by cases z), h6, h7⟩
section
variable {X : Cx} {B : Bd}
theorem px_lam {x a : Str} {st : Stmt} {Ng : List Str} {k : Nat} {spG : Tau → Nat → (Nat → D → Prop) → Prop} {c P : Addr} {params : Arguments} {prm : Option Str} {body : Expr} {scope : Scope} {tb : ED → TD} {p lpos pos : Pos}
    (hA : At X.K X.mg x st [a]) (Sg : FnScope Ng [a] (defScope st)) (hNg : Ng[0]? = some a) (hva : Vis (defScope st) a) (hG : GivesD X B.S (k + 1) Ng x st a spG) (mG : ∀ τ n Q Q', MonTau τ → (∀ w d, Q w d → Q' w d) → spG τ n Q → spG τ n Q')
    (TB : TabB X.base X.mg c P) (hcode : X.env.code = .ref c) (hmT : (P, lamQ X) ∈ B.S.T) (hu : ∀ p ∈ B.S.T, p.1 = P → p.2 = lamQ X) (hr : Room (k + 2) X.A) (L : LamSc X.N X.env.scope scope prm) (hp : LamP params prm)
    (hbind : ∀ (s : Shared) (c' : Addr) (dV doc pm ctv : Value) (dv : Option Value), (prm = none → dv = none ∧ dV = .none) → (prm.isSome = true → ∃ t v, dv = some v ∧ dV = .ref t ∧ s.heap.get? t = some (PySem.W.kdv_tup [v])) → BindsTo s (lamFd X params body scope dV doc pm c' ctv) ⟨[], []⟩ (bindsOf prm dv))
    (hbody : ∀ (A : Around) (outer : List Env) (s : Shared) (F H : Hp) (E : XK) (f c' : Addr), Room k (A.deeper (lamEnv X scope s.heap.objs.size f c')) → PX (lamCx X A outer s H E scope f c') ⟨B.S, F, H⟩ body (tb (EdB X ⟨B.S, F, H⟩ E)))
    (mtb : ∀ (ed ed' : ED) (e : Ev) (Q Q' : Nat → D → Prop), (∀ C fx w, ed C fx w → ed' C fx w) → (∀ w d, Q w d → Q' w d) → tb ed e Q → tb ed' e Q') (hg : Gl X x := by rfl)
    (hdb : (x == ("__debug__" : Str)) = false := by decide) (hd : (a == ("__debug__" : Str)) = false := by decide) (hcd : (a == ("__classdict__" : Str)) = false := by decide) :
    PX X B (.Call (.Name x p) [.Lambda params body scope lpos] [] pos) (dGive spG tb) := by
  refine ⟨fun e Q Q' i q => mG _ _ _ _ (fun w Q Q' E E' i j q => mtb _ _ _ _ _ j i q) i q, ⟨fun pins s σ H Q I h => ?_⟩⟩
  obtain ⟨e, F, sm, h⟩ := h
  obtain ⟨g, fd, hm, Fn, hb⟩ := hA
  obtain ⟨oc, od, kV, doc, pm, an, cdg, ct, osl, rfl, lk, hcg⟩ := Fn.ex
  obtain ⟨psP, hP, _⟩ := sm.ms.2 _ hmT
  have mutP : B.S.mut P := .inr ⟨_, hmT, rfl⟩
  refine wpAny_Call_Name_kw (ld_glob I hg hm ?_ hdb)
  refine PySem.W.callWith_K (h₀ := X.base) I.ok.mod.kin Fn.kp ?_ (by rfl) (by rfl)
  show wpAny _ _ (spliced ((false, eval (.Lambda params body scope lpos) X.env) :: backTo pos (starEach [] X.env))) _ _ s
  refine Calls.spliced_cons (lam_mk I TB hcode hmT hu sm.ms.2 hp (L.has I.ok) fun f c' dV doc pm' ctv dv H1 s' I1 gr T1 hD hf hfn hfr hco => ?_)
  refine Calls.spliced_nil ⟨I1.kIn, ?_⟩
  have m1 : MSt B.S e.w H1 := sm.ms.grown gr T1 ⟨psP, hP⟩
  have nP : ∀ {b : Addr}, ¬ B.S.mut b → b ≠ P := fun n z => n (z ▸ mutP)
  have stp : Step B.S F H F H1 := ⟨Sub.refl F, fun b o q => gr.keep b o (fun z => by rw [z, sm.fm P mutP] at q; cases q) (sm.fh b o q), fun b o q n => gr.keep b o (nP n) q, gr.there, fun b q => .inl q⟩
  have sm1 : Sim (am X B) e F σ H1 := sm.step stp m1
  have ncut : ¬ B.S.mut c' := fun z => by
    rcases z with ⟨q, e1, e2⟩ | ⟨q, e1, e2⟩
    · obtain ⟨_, cells, great, spot, h1, h2, h3, h4, h5, _⟩ := m1.1 q e1
      rcases e2 with e2 | e2 | e2
      · rw [e2, h1] at hco; unfold CodeO at hco; cases hco
      · rw [e2, h2] at hco; unfold CodeO at hco; cases hco
      · rw [e2, h5] at hco; unfold CodeO at hco; cases hco
    · obtain ⟨ps, h1, _⟩ := m1.2 q e1
      rw [e2, h1] at hco
      exact codeO_ne _ (Option.some.inj hco).symm
  have rc : codeAny (model X.prog X.w) X.A (.call (.ref g) ⟨[.ref f], []⟩) (CR C8.CX0 X.stack X.prog X.w H1 s' Q C8.E0) s' := by
    refine run_ofS (N := Ng) (ps := [a]) (us := [.ref f]) (vs := [.ref f]) lk hcg Sg hr I1.env0 (hb s' [.ref f] I1.kIn rfl) (.cons rfl .nil) rfl fun hr' => ?_
    have hG1 := hG g cdg f s' F H1 (fun w' Q' E' => tb E' ⟨mask e.s, w'⟩ Q') (fun w Q Q' E E' i j q => mtb _ _ _ _ _ j i q) hr'
    suffices hs : _ by
      obtain ⟨t', ht', hq'⟩ := hG1 hs
      refine ⟨_, ht'.ps [], ⟨⟨startD Ng [rfTok f], e.w⟩, F, ⟨sim_start (N := Ng) sm1.fh m1 sm1.fm (.cons (.rf f) .nil), fun q hq => absurd hq (by simp)⟩, ht'.mono (retD fun w d => ∀ v F' H', Step B.S F H1 F' H' → MSt B.S w H' → Rp (cc X B.S) F' v d → Q v H') _ _ ⟨fun e q F' σ' H' s' => q .non F' H' s'.sim.en s'.sim.ms .non, fun w d q v F' H' st m r => q v F' H' st m r, fun _ q => False.elim q, fun _ q => False.elim q⟩ (hq' e.w _ (mG _ _ _ _ (fun w Q Q' E E' i j q => mtb _ _ _ _ _ j i q) (fun w d q v F' H' st m r => q v F' H' (stp.trans st) m r) h))⟩⟩
    · intro G pn xe Wd p1 p2 rb ⟨W, tk, lk⟩
      refine ⟨fun e Q Q' i q => ⟨q.1, mtb _ _ _ _ _ (fun _ _ _ q => q) i q.2⟩, pe_imp (pe_act3 (i := 0) (tb := fun H E σ H2 Q => ∃ F0, lift (am X ⟨B.S, F0, H⟩) (tb (EdB X ⟨B.S, F0, H⟩ E)) σ H2 Q) I1 L hf hfn hfr hD (fun s0 ht => hbind s0 c' dV doc pm' ctv dv (fun z => ?_) (fun z => ?_)) tk hr' (fun A outer s H E hr2 => ⟨fun pins s0 σ0 H0 Q0 I0 ⟨F0, q⟩ => (hbody A outer s F0 H E f c' hr2).pe.run pins s0 σ0 H0 Q0 I0 q⟩) hNg hva hd hcd) fun σZ HZ Q q => ?_⟩
      · subst z
        exact ⟨hD.2, hD.1⟩
      · cases prm with
        | none => cases z
        | some y =>
          obtain ⟨t, v, e1, e2, e3, e4, e5⟩ := hD
          obtain ⟨v', e1', h'⟩ := ht t e2
          exact ⟨t, v', e1', e2, h'⟩
      · obtain ⟨ez, Fz, smz, he, hτ⟩ := q
        obtain ⟨v0, hv0, rv0⟩ := smz.rel 0 _ he
        unfold rfTok at rv0
        cases rv0
        have full : Step B.S F H1 Fz HZ := ⟨rb.sub.trans smz.en.f, smz.fh, smz.en.k, smz.en.t, fun b q => (smz.en.n b q).elim (rb.new b) .inr⟩
        refine ⟨hv0, smz.en.k c' _ hco ncut, fun cls d H' => W cls d σZ H', fun _ _ _ q => q, Fz, ⟨mask e.s, ez.w⟩, Fz, (sm1.step full smz.ms).masked, ?_⟩
        exact mtb _ _ _ _ _ (fun C fx w' hw d F' H' st m xr => lk C fx _ F' σZ H' d (smz.step st m) xr hw) (fun _ _ q => q) hτ
  refine wpAny_call (codeAny_mono rc fun r s2 hq => ?_)
  cases r with
  | error e => exact (show False from hq).elim
  | ok fl =>
    cases fl with
    | ret u => exact I1.after hq
    | next => exact False.elim hq
    | brk => exact False.elim hq
    | cont => exact False.elim hq
end
end PL
end
section
set_option Elab.async false
set_option linter.all false
set_option maxRecDepth 100000
set_option maxHeartbeats 4000000
set_option autoImplicit false
/-! P12: more words: unary minus, constants of the module, three names at once; handles for printed proofs. -/
namespace PL
open PySem PySem.Spec PyProof.Rows L2
section
variable {X : Cx} {B : Bd} {a b c : Expr} {ta : TD} {tr : TAD} {pos p : Pos} {x : Str}
def dNeg (t : TD) : TD := fun e Q => t e fun w x => ∃ i, x = .int i ∧ Q w (.int (-i))
theorem px_neg (h : PX X B a ta) : PX X B (.UnaryOp .USub a pos) (dNeg ta) := by
  refine ⟨fun e Q Q' i q => h.mono _ _ _ (fun w x ⟨k, ex, q⟩ => ⟨k, ex, i _ _ q⟩) q, pe_imp (pe_un un_neg h.pe) fun σ H Q q => ?_⟩
  obtain ⟨e, F, s, q⟩ := q
  refine ⟨e, F, s, h.mono _ _ _ (fun w x ⟨k, ex, q⟩ v F1 H1 st1 m1 r1 => ?_) q⟩
  subst ex
  cases r1
  exact ⟨k, rfl, q _ F1 H1 st1 m1 (.int _)⟩
/-- a constant of the module -/
def GlD (K : PySem.W.Frag) (mg : Str → Option Value) (x : Str) (d : D) : Prop := ∃ u v, mg x = some u ∧ RelV v u ∧ ∀ S F, Rp ⟨K, mg, S⟩ F v d
theorem px_glob {d : D} (h : GlD X.K X.mg x d) (hg : Gl X x := by rfl) (hd : (x == ("__debug__" : Str)) = false := by decide) : PX X B (.Name x pos) (dC d) := by
  obtain ⟨u, v, hm, r, hr⟩ := h
  refine ⟨dC_mono d, pe_imp (pe_glob hg hm r hd) fun σ H Q q => ?_⟩
  obtain ⟨e, F, s, q⟩ := q
  exact q v F H (Step.refl s.fh) s.ms (hr _ _)
theorem gl_str {K : PySem.W.Frag} {mg : Str → Option Value} {y : Str} {t : Tok} (h : mg x = some (.str y t)) : GlD K mg x (.str y) := ⟨_, .str y, h, ⟨_, rfl⟩, fun _ _ => .str y⟩
theorem gl_int {K : PySem.W.Frag} {mg : Str → Option Value} {i : Int} {t : Tok} (h : mg x = some (.int i t)) : GlD K mg x (.int i) := ⟨_, .int i, h, ⟨_, rfl⟩, fun _ _ => .int i⟩
end
section
variable {P : Program} {w : World} {K : PySem.W.Frag} {mg : Str → Option Value} {base : Heap} {N : List Str} {q : Str} {sc : Scope} {f : Addr} {cd : Value} {A : Around} {outer : List Env} {s : Shared} {H : Hp} {E : XK} {B : Bd}
theorem lets_cx : LetsD (cxOf (L2.CX P w) P w K mg base N q sc f cd A outer s H E) B (fun C fx e => EdB (cxOf (L2.CX P w) P w K mg base N q sc f cd A outer s H E) B E C fx e.w) := lets_body (takes_of rfl rfl rfl rfl)
theorem lets_lam {X : Cx} {scope : Scope} {c' : Addr} : LetsD (LamX.lamCx X A outer s H E scope f c') B (fun C fx e => EdB X B E C fx e.w) := lets_body (takes_of (X := LamX.lamCx X A outer s H E scope f c') (E := E) rfl rfl rfl rfl)
theorem passes_cx : PassesOwn (model P w) (cxOf (L2.CX P w) P w K mg base N q sc f cd A outer s H E).A (cxOf (L2.CX P w) P w K mg base N q sc f cd A outer s H E).env (cxOf (L2.CX P w) P w K mg base N q sc f cd A outer s H E).xe := passes_of rfl
end
section
variable {X : Cx} {B : Bd} {k j : Nat} {x : Str} {ps : List Str} {sp : SpD}
theorem DOk.mono {P : Program} {w : World} {K : PySem.W.Frag} {mg : Str → Option Value} {base : Heap} (h : DOk P w K mg base j x ps sp) (l : j ≤ k) : DOk P w K mg base k x ps sp := by
  obtain ⟨f, fd, a, b, c, F⟩ := h
  exact ⟨f, fd, a, b, c, F.mono l⟩
/-- a weaker promise -/
theorem DOk.imp {P : Program} {w : World} {K : PySem.W.Frag} {mg : Str → Option Value} {base : Heap} {sp' : SpD} (h : DOk P w K mg base k x ps sp) (i : ∀ ds n Q E, sp' ds n Q E → sp ds n Q E) : DOk P w K mg base k x ps sp' := by
  obtain ⟨f, fd, a, b, c, F⟩ := h
  refine ⟨f, fd, a, b, c, F.imp fun vs H Q E q => ?_⟩
  obtain ⟨S, G, ds, n, h1, h2, h3, h4, q⟩ := q
  exact ⟨S, G, ds, n, h1, h2, h3, h4, i _ _ _ _ q⟩
end
end PL
end
section
set_option Elab.async false
set_option linter.all false
set_option maxRecDepth 100000
set_option maxHeartbeats 4000000
set_option autoImplicit false
/-! P13: promises by functions over data. -/
namespace PL
open PySem PySem.Spec PyProof.Rows L2
abbrev Out := Except (Addr × FX) D
def outD (r : Out) (w : Nat) (Q : Nat → D → Prop) (E : ED) : Prop := match r with
  | .ok d => Q w d
  | .error p => E p.1 p.2 w
theorem outD_mono {r : Out} {w : Nat} {Q Q' : Nat → D → Prop} {E E' : ED} (h : ∀ w d, Q w d → Q' w d) (i : ∀ C f w, E C f w → E' C f w) (q : outD r w Q E) : outD r w Q' E' := by
  unfold outD at q ⊢
  cases r with
  | ok d => exact h _ _ q
  | error p => exact i _ _ _ q
def F1 (dom : D → Prop) (f : D → Out) : SpD := fun ds w Q E => ∃ x, ds = [x] ∧ dom x ∧ outD (f x) w Q E
def F2 (dom : D → D → Prop) (f : D → D → Out) : SpD := fun ds w Q E => ∃ x y, ds = [x, y] ∧ dom x y ∧ outD (f x y) w Q E
def F3 (dom : D → D → D → Prop) (f : D → D → D → Out) : SpD := fun ds w Q E => ∃ x y z, ds = [x, y, z] ∧ dom x y z ∧ outD (f x y z) w Q E
theorem F1.mo {dom f} : SpMono (F1 dom f) := fun ds w Q Q' E E' h i ⟨x, e, d, q⟩ => ⟨x, e, d, outD_mono h i q⟩
theorem F2.mo {dom f} : SpMono (F2 dom f) := fun ds w Q Q' E E' h i ⟨x, y, e, d, q⟩ => ⟨x, y, e, d, outD_mono h i q⟩
theorem F3.mo {dom f} : SpMono (F3 dom f) := fun ds w Q Q' E E' h i ⟨x, y, z, e, d, q⟩ => ⟨x, y, z, e, d, outD_mono h i q⟩
theorem F1.len {dom f} : ∀ ds w Q E, F1 dom f ds w Q E → ds.length = 1 := fun ds w Q E ⟨x, e, _⟩ => by rw [e]; rfl
theorem F2.len {dom f} : ∀ ds w Q E, F2 dom f ds w Q E → ds.length = 2 := fun ds w Q E ⟨x, y, e, _⟩ => by rw [e]; rfl
theorem F3.len {dom f} : ∀ ds w Q E, F3 dom f ds w Q E → ds.length = 3 := fun ds w Q E ⟨x, y, z, e, _⟩ => by rw [e]; rfl
/-- something drawn: k draws at the most -/
def Dr (dom : List D → Prop) (n k : Nat) (R : List D → D → Prop) : SpD := fun ds w Q _ => ds.length = n ∧ dom ds ∧ w + k < 2 ^ 60 ∧ ∀ w' x, w' ≤ w + k → R ds x → Q w' x
theorem Dr.mo {dom n k R} : SpMono (Dr dom n k R) := fun ds w Q Q' E E' h i ⟨e, d, l, q⟩ => ⟨e, d, l, fun w' x a b => h _ _ (q w' x a b)⟩
theorem Dr.len {dom n k R} : ∀ ds w Q E, Dr dom n k R ds w Q E → ds.length = n := fun ds w Q E ⟨e, _⟩ => e
theorem Room.eqU {k : Nat} {A : Around} (r : Room k A) : A.units + 64 < cLine := by
  have := r.un
  omega
end PL
end
section
set_option Elab.async false
set_option linter.all false
set_option maxRecDepth 100000
set_option maxHeartbeats 4000000
set_option autoImplicit false
/-! P14: rows to reckon with data. -/
namespace PL
open PySem PySem.Spec PyProof.Rows L2
theorem ev_ii (a b : Int) : PyData.eqv (.int a) (.int b) = decide (a = b) := by
  rw [Bool.eq_iff_iff]
  simp [PyData.eqv]
theorem ev_ss (a b : Str) : PyData.eqv (.str a) (.str b) = (a == b) := by simp [PyData.eqv]
theorem ev_nn : PyData.eqv .none .none = true := by simp [PyData.eqv]
theorem ev_bb (a b : Bool) : PyData.eqv (.bool a) (.bool b) = (a == b) := by simp [PyData.eqv]
theorem ev_tt (a b : List D) : PyData.eqv (.tuple a) (.tuple b) = PyData.eqvAll a b := by simp [PyData.eqv]
theorem ev_ll (a b : List D) : PyData.eqv (.list a) (.list b) = PyData.eqvAll a b := by simp [PyData.eqv]
theorem ev_tn (a : List D) : PyData.eqv (.tuple a) .none = false := by simp [PyData.eqv]
theorem ev_nt (a : List D) : PyData.eqv .none (.tuple a) = false := by simp [PyData.eqv]
theorem ev_in (a : Int) : PyData.eqv (.int a) .none = false := by simp [PyData.eqv]
theorem ev_ni (a : Int) : PyData.eqv .none (.int a) = false := by simp [PyData.eqv]
theorem ev_it (a : Int) (b : List D) : PyData.eqv (.int a) (.tuple b) = false := by simp [PyData.eqv]
theorem ev_ti (a : Int) (b : List D) : PyData.eqv (.tuple b) (.int a) = false := by simp [PyData.eqv]
theorem ev_st (a : Str) (b : List D) : PyData.eqv (.str a) (.tuple b) = false := by simp [PyData.eqv]
theorem ev_ts (a : Str) (b : List D) : PyData.eqv (.tuple b) (.str a) = false := by simp [PyData.eqv]
theorem ev_si (a : Str) (b : Int) : PyData.eqv (.str a) (.int b) = false := by simp [PyData.eqv]
theorem ev_is (a : Str) (b : Int) : PyData.eqv (.int b) (.str a) = false := by simp [PyData.eqv]
theorem ea_nn : PyData.eqvAll [] [] = true := by simp [PyData.eqvAll]
theorem ea_nc (x : D) (xs : List D) : PyData.eqvAll [] (x :: xs) = false := by simp [PyData.eqvAll]
theorem ea_cn (x : D) (xs : List D) : PyData.eqvAll (x :: xs) [] = false := by simp [PyData.eqvAll]
theorem ea_cc (x y : D) (xs ys : List D) : PyData.eqvAll (x :: xs) (y :: ys) = (PyData.eqv x y && PyData.eqvAll xs ys) := by simp [PyData.eqvAll]
theorem sz_small {n : Nat} (h : n ≤ 16777216) : n ≤ sizeLine := by
  rw [sizeLine_eq]
  exact h
theorem shp_none : shp .none := ⟨rfl, by decide⟩
theorem shp_bool (b : Bool) : shp (.bool b) := ⟨by cases b <;> rfl, by simp [PyData.depth]⟩
theorem shp_int (i : Int) : shp (.int i) := ⟨by simp [PyData.canLay0], by simp [PyData.depth]⟩
/-- data of no more than so many layers -/
def shn (n : Nat) (d : D) : Prop := d.canLay0 = true ∧ d.depth ≤ n
theorem shn.shp {n : Nat} {d : D} (h : shn n d) (l : n ≤ 64) : shp d := ⟨h.1, Nat.le_trans h.2 l⟩
theorem shn_none (n : Nat) : shn n .none := ⟨by simp [PyData.canLay0], by simp [PyData.depth]⟩
theorem shn_bool (n : Nat) (b : Bool) : shn n (.bool b) := ⟨by simp [PyData.canLay0], by simp [PyData.depth]⟩
theorem shn_int (n : Nat) (i : Int) : shn n (.int i) := ⟨by simp [PyData.canLay0], by simp [PyData.depth]⟩
theorem shn_str (n : Nat) {s : Str} (h : (PyData.str s).canLay0 = true) : shn n (.str s) := ⟨h, by simp [PyData.depth]⟩
theorem sh_all {n : Nat} : ∀ {xs : List D}, (PyData.canLayAll0 xs = true ∧ PyData.depthAll xs ≤ n) ↔ ∀ x ∈ xs, shn n x
  | [] => by simp [PyData.canLayAll0, PyData.depthAll]
  | x :: xs => by
    have ih := sh_all (n := n) (xs := xs)
    simp only [PyData.canLayAll0, PyData.depthAll, Bool.and_eq_true, Nat.max_le, List.mem_cons, forall_eq_or_imp]
    constructor
    · rintro ⟨⟨a, b⟩, c, d⟩
      exact ⟨⟨a, c⟩, ih.mp ⟨b, d⟩⟩
    · rintro ⟨⟨a, c⟩, h⟩
      obtain ⟨b, d⟩ := ih.mpr h
      exact ⟨⟨a, b⟩, c, d⟩
theorem shn_tup {n : Nat} {xs : List D} : shn (n + 1) (.tuple xs) ↔ ∀ x ∈ xs, shn n x := by
  rw [← sh_all]
  simp [shn, PyData.canLay0, PyData.depth]
theorem shn_lst {n : Nat} {xs : List D} : shn (n + 1) (.list xs) ↔ ∀ x ∈ xs, shn n x := by
  rw [← sh_all]
  simp [shn, PyData.canLay0, PyData.depth]
theorem shp_iff {d : D} : shp d ↔ shn 64 d := Iff.rfl
theorem shn_ty {n : Nat} {d : D} (h : shn n d) : (tyD d).isSome = true := by
  cases d <;> first | rfl | (have := h.1; simp [PyData.canLay0] at this)
theorem shn_mono {n m : Nat} {d : D} (h : shn n d) (l : n ≤ m) : shn m d := ⟨h.1, Nat.le_trans h.2 l⟩
end PL
namespace PL
open PySem PySem.Spec PyProof.Rows L2
theorem ix0 {α : Type} (a : α) (r : List α) : L2.atI (a :: r) 0 = some a := by
  unfold L2.atI L2.ixN
  simp
theorem ix1 {α : Type} (a b : α) (r : List α) : L2.atI (a :: b :: r) 1 = some b := by
  unfold L2.atI L2.ixN
  have h : (1 : Int) < ((a :: b :: r).length : Int) := by simp only [List.length_cons]; omega
  rw [if_pos (by decide), if_pos h]
  rfl
theorem ix2 {α : Type} (a b c : α) (r : List α) : L2.atI (a :: b :: c :: r) 2 = some c := by
  unfold L2.atI L2.ixN
  have h : (2 : Int) < ((a :: b :: c :: r).length : Int) := by simp only [List.length_cons]; omega
  rw [if_pos (by decide), if_pos h]
  rfl
theorem ixl1 {α : Type} (a : α) : L2.atI [a] (-1) = some a := by rfl
theorem ixl2 {α : Type} (a b : α) : L2.atI [a, b] (-1) = some b := by rfl
theorem ixl3 {α : Type} (a b c : α) : L2.atI [a, b, c] (-1) = some c := by rfl
theorem ty_n : tyD .none = some "NoneType" := rfl
theorem ty_b (b : Bool) : tyD (.bool b) = some "bool" := rfl
theorem ty_i (i : Int) : tyD (.int i) = some "int" := rfl
theorem ty_s (s : Str) : tyD (.str s) = some "str" := rfl
theorem ty_l (xs : List D) : tyD (.list xs) = some "list" := rfl
theorem ty_t (xs : List D) : tyD (.tuple xs) = some "tuple" := rfl
theorem ty_d (k : List (D × D)) : tyD (.dict k) = none := rfl
theorem it_n (T : String) : isTy T .none = (T == "NoneType") := rfl
theorem it_b (T : String) (b : Bool) : isTy T (.bool b) = (T == "bool" || T == "int") := rfl
theorem it_i (T : String) (i : Int) : isTy T (.int i) = (T == "int") := rfl
theorem it_s (T : String) (s : Str) : isTy T (.str s) = (T == "str") := rfl
theorem it_l (T : String) (xs : List D) : isTy T (.list xs) = (T == "list") := rfl
theorem it_t (T : String) (xs : List D) : isTy T (.tuple xs) = (T == "tuple") := rfl
theorem it_d (T : String) (k : List (D × D)) : isTy T (.dict k) = false := rfl
theorem fl_n : flatD .none = true := rfl
theorem fl_b (b : Bool) : flatD (.bool b) = true := rfl
theorem fl_i (i : Int) : flatD (.int i) = true := rfl
theorem fl_s (s : Str) : flatD (.str s) = true := rfl
theorem nn_n : isNonD .none = true := rfl
theorem nn_b (b : Bool) : isNonD (.bool b) = false := rfl
theorem nn_i (i : Int) : isNonD (.int i) = false := rfl
theorem nn_s (s : Str) : isNonD (.str s) = false := rfl
theorem nn_l (xs : List D) : isNonD (.list xs) = false := rfl
theorem nn_t (xs : List D) : isNonD (.tuple xs) = false := rfl
theorem ln_l (xs : List D) : lenD (.list xs) = some xs.length := rfl
theorem ln_t (xs : List D) : lenD (.tuple xs) = some xs.length := rfl
end PL
namespace PL
/-- a promise by cases: the arguments ds a, where pre a -/
def GS {α : Type} (ds : α → List D) (pre : α → Prop) (out : α → Out) : SpD := fun l w Q E => ∃ a : α, l = ds a ∧ pre a ∧ outD (out a) w Q E
theorem GS.mo {α : Type} {ds : α → List D} {pre : α → Prop} {out : α → Out} : SpMono (GS ds pre out) := fun l w Q Q' E E' h i ⟨a, e, p, q⟩ => ⟨a, e, p, outD_mono h i q⟩
theorem GS.len {α : Type} {ds : α → List D} {pre : α → Prop} {out : α → Out} {n : Nat} (hn : ∀ a, (ds a).length = n) : ∀ l w Q E, GS ds pre out l w Q E → l.length = n := fun l w Q E ⟨a, e, _⟩ => by rw [e]; exact hn a
/-- something drawn: k draws at the most -/
def GR {α : Type} (ds : α → List D) (pre : α → Prop) (k : Nat) (R : α → D → Prop) : SpD := fun l w Q _ => ∃ a : α, l = ds a ∧ pre a ∧ w + k < 2 ^ 60 ∧ ∀ w' x, w' ≤ w + k → R a x → Q w' x
theorem GR.mo {α : Type} {ds : α → List D} {pre : α → Prop} {k : Nat} {R : α → D → Prop} : SpMono (GR ds pre k R) := fun l w Q Q' E E' h i ⟨a, e, p, b, q⟩ => ⟨a, e, p, b, fun w' x h1 h2 => h _ _ (q w' x h1 h2)⟩
theorem GR.len {α : Type} {ds : α → List D} {pre : α → Prop} {k : Nat} {R : α → D → Prop} {n : Nat} (hn : ∀ a, (ds a).length = n) : ∀ l w Q E, GR ds pre k R l w Q E → l.length = n := fun l w Q E ⟨a, e, _⟩ => by rw [e]; exact hn a
end PL
namespace PL
theorem F1_at {dom f x w Q E} : F1 dom f [x] w Q E ↔ (dom x ∧ outD (f x) w Q E) := ⟨fun ⟨a, e, h⟩ => by cases e; exact h, fun h => ⟨x, rfl, h⟩⟩
theorem F2_at {dom f x y w Q E} : F2 dom f [x, y] w Q E ↔ (dom x y ∧ outD (f x y) w Q E) := ⟨fun ⟨a, b, e, h⟩ => by cases e; exact h, fun h => ⟨x, y, rfl, h⟩⟩
theorem F3_at {dom f x y z w Q E} : F3 dom f [x, y, z] w Q E ↔ (dom x y z ∧ outD (f x y z) w Q E) := ⟨fun ⟨a, b, c, e, h⟩ => by cases e; exact h, fun h => ⟨x, y, z, rfl, h⟩⟩
theorem GS.at {α : Type} {ds : α → List D} {pre : α → Prop} {out : α → Out} (a : α) {w Q E} (p : pre a) (q : outD (out a) w Q E) : GS ds pre out (ds a) w Q E := ⟨a, rfl, p, q⟩
end PL
namespace PL
theorem ex2 {α β : Type} {a : α} {b : β} {P : α → β → Prop} : (∃ i j, (a = i ∧ b = j) ∧ P i j) ↔ P a b := ⟨fun ⟨i, j, ⟨h1, h2⟩, q⟩ => by subst h1; subst h2; exact q, fun q => ⟨a, b, ⟨rfl, rfl⟩, q⟩⟩
theorem ex3 {α β γ : Type} {a : α} {b : β} {c : γ} {P : α → β → γ → Prop} : (∃ i j k, (a = i ∧ b = j ∧ c = k) ∧ P i j k) ↔ P a b c := ⟨fun ⟨i, j, k, ⟨h1, h2, h3⟩, q⟩ => by subst h1; subst h2; subst h3; exact q, fun q => ⟨a, b, c, ⟨rfl, rfl, rfl⟩, q⟩⟩
end PL
namespace PL
open PySem PySem.Spec PyProof.Rows L2
/-- a shared object written -/
theorem Step.mutU {S : Msh} {F H : Hp} (s : Sub F H) {a : Addr} (o : HO) (m : S.mut a) (f : F a = none) : Step S F H F (upd H a o) where
  f := Sub.refl F
  h := fun b u e => by
    have n : b ≠ a := fun z => by rw [z, f] at e; cases e
    rw [upd_ne n]
    exact s b u e
  k := fun b u e n => by
    have n' : b ≠ a := fun z => n (z ▸ m)
    rw [upd_ne n']
    exact e
  t := fun b e => by
    by_cases z : b = a
    · rw [z, upd_same]; simp
    · rw [upd_ne z]; exact e
  n := fun b e => .inl e
theorem call_intI {X : Cx} : CallR X (.type "int") (fun xs H Q => ∃ i, xs = [.int i] ∧ Q (.int i) H) := fun pins s σ H xs us Q I r q => by
  obtain ⟨i, e, q⟩ := q
  exact call_int1 pins s σ H xs us Q I r (.inl ⟨i, e, q⟩)
theorem Room.hu1 {k : Nat} {A : Around} (r : Room k A) : A.units + 1 < cLine := by
  have := r.un
  omega
/-- the state of draws as it lies -/
structure MLies (m : Mm) (cells great : List Int) (spot : Nat) (H : Hp) : Prop where
  am : H m.am = some (.dK [(.inr "cells", .ref m.ac), (.inr "great", .ref m.ag), (.inr "spot", .int spot)])
  ac : H m.ac = some (.lst (cells.map V.int))
  ag : H m.ag = some (.lst (great.map V.int))
theorem MLies.mst {S : Msh} {m : Mm} {cells great : List Int} {spot w : Nat} {H : Hp} (l : MLies m cells great spot H) (hM : S.M = some m) (hne : m.ac ≠ m.ag) (h3 : cells.length = 64) (h4 : ∀ c ∈ cells, c.natAbs < 2 ^ 31) (h6 : great.length < 64) (h7 : spot ≤ w) (ht : LamX.Tabs S.T H) : MSt S w H :=
  ⟨fun q e => by
    rw [hM] at e
    cases e
    exact ⟨hne, cells, great, spot, l.am, l.ac, h3, h4, l.ag, h6, h7⟩, ht⟩
theorem Tabs.updN {T : List (Addr × Str)} {H : Hp} {a : Addr} {o u : HO} (t : LamX.Tabs T H) (ha : H a = some u) (h1 : ∀ ps, u ≠ .tbl ps) (h2 : ∀ c q, u ≠ LamX.CodeO c q) : LamX.Tabs T (upd H a o) := fun p hp => by
  obtain ⟨ps, e1, e2, e3⟩ := t p hp
  have n : p.1 ≠ a := fun z => by
    rw [z, ha] at e1
    exact h1 ps (Option.some.inj e1)
  refine ⟨ps, by rw [upd_ne n]; exact e1, e2, fun pos cv hc => ?_⟩
  obtain ⟨c, e4, e5⟩ := e3 pos cv hc
  have n2 : c ≠ a := fun z => by
    rw [z, ha] at e5
    exact h2 _ _ (Option.some.inj e5)
  exact ⟨c, e4, by rw [upd_ne n2]; exact e5⟩
theorem lst_ne_code {xs : List V} {c : Addr} {q : Str} : HO.lst xs ≠ LamX.CodeO c q := fun z => by
  unfold LamX.CodeO at z
  cases z
theorem dk_ne_code {xs : List (Key × V)} {c : Addr} {q : Str} : HO.dK xs ≠ LamX.CodeO c q := fun z => by
  unfold LamX.CodeO at z
  cases z
end PL
namespace PL
open PySem PySem.Spec PyProof.Rows L2
theorem kcs : ¬ ((.inr "cells" : Key) = .inr "spot") := by decide +kernel
theorem kgs : ¬ ((.inr "great" : Key) = .inr "spot") := by decide +kernel
theorem kcg : ¬ ((.inr "cells" : Key) = .inr "great") := by decide +kernel
theorem MLies.spot {m : Mm} {cells great : List Int} {sp : Nat} {H : Hp} (l : MLies m cells great sp H) : DGet H m.am (.str "spot") (some (.int sp)) := by
  have h := DGet.k (k := .inr "spot") l.am
  have e : valV [((.inr "cells" : Key), V.ref m.ac), (.inr "great", .ref m.ag), (.inr "spot", .int sp)] (.inr "spot") = some (.int sp) := by
    rw [valV_neg kcs, valV_neg kgs, valV_pos rfl]
  rw [e] at h
  exact h
theorem MLies.great {m : Mm} {cells great : List Int} {sp : Nat} {H : Hp} (l : MLies m cells great sp H) : DGet H m.am (.str "great") (some (.ref m.ag)) := by
  have h := DGet.k (k := .inr "great") l.am
  have e : valV [((.inr "cells" : Key), V.ref m.ac), (.inr "great", .ref m.ag), (.inr "spot", .int sp)] (.inr "great") = some (.ref m.ag) := by
    rw [valV_neg kcg, valV_pos rfl]
  rw [e] at h
  exact h
theorem MLies.cells {m : Mm} {cells great : List Int} {sp : Nat} {H : Hp} (l : MLies m cells great sp H) : DGet H m.am (.str "cells") (some (.ref m.ac)) := by
  have h := DGet.k (k := .inr "cells") l.am
  have e : valV [((.inr "cells" : Key), V.ref m.ac), (.inr "great", .ref m.ag), (.inr "spot", .int sp)] (.inr "cells") = some (.ref m.ac) := by
    rw [valV_pos rfl]
  rw [e] at h
  exact h
theorem MLies.put {m : Mm} {cells great : List Int} {sp : Nat} {H : Hp} (l : MLies m cells great sp H) : DPut H m.am (.str "spot") (.int (sp + 1)) (upd H m.am (.dK [(.inr "cells", .ref m.ac), (.inr "great", .ref m.ag), (.inr "spot", .int ((sp + 1 : Nat) : Int))])) := by
  have h := DPut.k (k := .inr "spot") (v := .int (sp + 1)) l.am (by rw [sizeLine_eq]; show 3 < 16777216; decide)
  have e : putK [((.inr "cells" : Key), V.ref m.ac), (.inr "great", .ref m.ag), (.inr "spot", .int sp)] (.inr "spot") (.int (sp + 1)) = [(.inr "cells", .ref m.ac), (.inr "great", .ref m.ag), (.inr "spot", .int (sp + 1))] := by
    have d1 : ¬ (PySem.Str.ofString "cells" = PySem.Str.ofString "spot") := by decide +kernel
    have d2 : ¬ (PySem.Str.ofString "great" = PySem.Str.ofString "spot") := by decide +kernel
    simp [putK, d1, d2]
  rw [e] at h
  exact h
end PL
end
section
set_option Elab.async false
set_option linter.all false
set_option maxRecDepth 100000
set_option maxHeartbeats 4000000
set_option autoImplicit false
/-! KM: ways and their numbers, plain. -/
namespace LK
open PySem PL
inductive Way where
  | wh | ct | ch | co
  | lf (m : Int)
def Way.ok : Way → Prop
  | .lf m => 2 ≤ m ∧ m ≤ 1000
  | _ => True
def Way.d : Way → D
  | .wh => .tuple [.str "whether"]
  | .ct => .tuple [.str "count"]
  | .ch => .tuple [.str "chance"]
  | .co => .tuple [.str "cost"]
  | .lf m => .tuple [.str "left", .int m]
/-- the greatest common divisor -/
def gg (p q : Int) : Int := ((Nat.gcd p.natAbs q.natAbs : Nat) : Int)
def isNum (W : Way) (x : D) : Bool := match W, x with
  | .ch, .tuple [.int p, .int q] => decide (0 < q) && decide (gg p q = 1) && decide (0 < p)
  | .lf m, .int k => decide (0 < k) && decide (k < m)
  | .wh, .int k => decide (k = 1)
  | .co, .int _ => true
  | .ct, .int k => decide (0 < k)
  | _, _ => false
def okNum (W : Way) (x : D) : Prop := x = .none ∨ isNum W x = true
def low (p q : Int) : D := .tuple [.int (p / gg p q), .int (q / gg p q)]
def left (m n : Int) : D := if 0 < n % m then .int (n % m) else .none
def addI (W : Way) (i j : Int) : D := match W with
  | .wh => .int 1
  | .ct => .int (i + j)
  | .co => .int (if j < i then j else i)
  | .lf m => left m (i + j)
  | .ch => .none
def mulI (W : Way) (i j : Int) : D := match W with
  | .wh => .int 1
  | .ct => .int (i * j)
  | .co => .int (i + j)
  | .lf m => left m (i * j)
  | .ch => .none
def addD (W : Way) (x y : D) : D := match x, y with
  | .none, y => y
  | x, .none => x
  | .int i, .int j => addI W i j
  | .tuple [.int p, .int q], .tuple [.int r, .int s] => low (p * s + r * q) (q * s)
  | _, _ => .none
def mulD (W : Way) (x y : D) : D := match x, y with
  | .int i, .int j => mulI W i j
  | .tuple [.int p, .int q], .tuple [.int r, .int s] => low (p * r) (q * s)
  | _, _ => .none
def one (W : Way) : D := match W with
  | .ch => .tuple [.int 1, .int 1]
  | .co => .int 0
  | _ => .int 1
/-- entries of less than so many bits -/
def bd (B : Nat) : D → Prop
  | .int i => i.natAbs < 2 ^ B
  | .tuple [.int p, .int q] => p.natAbs < 2 ^ B ∧ q.natAbs < 2 ^ B
  | .none => True
  | _ => False
/-! ### fractions -/
theorem gg_pos {p q : Int} (h : 0 < q) : 0 < gg p q := by
  have : 0 < Nat.gcd p.natAbs q.natAbs := Nat.gcd_pos_of_pos_right _ (by omega)
  unfold gg
  omega
theorem gg_dl (p q : Int) : gg p q ∣ p := by
  have := Nat.gcd_dvd_left p.natAbs q.natAbs
  unfold gg
  exact Int.ofNat_dvd_left.mpr this
theorem gg_dr (p q : Int) : gg p q ∣ q := by
  have := Nat.gcd_dvd_right p.natAbs q.natAbs
  unfold gg
  exact Int.ofNat_dvd_left.mpr this
theorem gg_comm (p q : Int) : gg p q = gg q p := by unfold gg; rw [Nat.gcd_comm]
theorem gg_eq (p q : Int) : gg p q = ((Int.gcd p q : Nat) : Int) := rfl
theorem gg_bits {p q : Int} {B : Nat} (h : 0 < q) (l : q.natAbs < 2 ^ B) : (gg p q).natAbs < 2 ^ B := by
  have h1 := Int.le_of_dvd h (gg_dr p q)
  have h2 := gg_pos (p := p) h
  omega
theorem log_lt {n B : Nat} (h : n < 2 ^ B) (hB : 0 < B) : n.log2 < B := by
  by_cases z : n = 0
  · subst z; simpa using hB
  · exact (Nat.log2_lt z).mpr h
/-- the lowest terms -/
theorem low_spec {p q : Int} (hp : 0 < p) (hq : 0 < q) : ∃ a b : Int, low p q = .tuple [.int a, .int b] ∧ 0 < a ∧ 0 < b ∧ gg a b = 1 ∧ a * q = p * b ∧ a ≤ p ∧ b ≤ q := by
  have g := gg_pos (p := p) hq
  obtain ⟨a, ha⟩ := gg_dl p q
  obtain ⟨b, hb⟩ := gg_dr p q
  have ea : p / gg p q = a := Int.ediv_eq_of_eq_mul_right (by omega) ha
  have eb : q / gg p q = b := Int.ediv_eq_of_eq_mul_right (by omega) hb
  have pa : 0 < a := by
    rcases Int.lt_or_le 0 a with h | h
    · exact h
    · have : gg p q * a ≤ 0 := Int.mul_nonpos_of_nonneg_of_nonpos (by omega) h
      omega
  have pb : 0 < b := by
    rcases Int.lt_or_le 0 b with h | h
    · exact h
    · have : gg p q * b ≤ 0 := Int.mul_nonpos_of_nonneg_of_nonpos (by omega) h
      omega
  refine ⟨a, b, by unfold low; rw [ea, eb], pa, pb, ?_, ?_, ?_, ?_⟩
  · have h1 : gg p q = gg p q * gg a b := by
      have e1 : Int.gcd p q = Int.gcd (gg p q * a) (gg p q * b) := by rw [← ha, ← hb]
      have e2 : Int.gcd (gg p q * a) (gg p q * b) = (gg p q).natAbs * Int.gcd a b := Int.gcd_mul_left ..
      have e3 : (gg p q : Int) = ((gg p q).natAbs : Int) := by omega
      have e4 : gg p q = ((Int.gcd p q : Nat) : Int) := rfl
      have e5 : gg a b = ((Int.gcd a b : Nat) : Int) := rfl
      rw [e1, e2] at e4
      rw [e5, e3, ← Int.natCast_mul]
      omega
    have h2 : gg p q * 1 = gg p q * gg a b := by omega
    exact (Int.eq_of_mul_eq_mul_left (by omega) h2).symm
  · calc a * q = a * (gg p q * b) := by rw [← hb]
      _ = gg p q * a * b := by rw [Int.mul_left_comm, Int.mul_assoc]
      _ = p * b := by rw [← ha]
  · have : 1 * a ≤ gg p q * a := Int.mul_le_mul_of_nonneg_right (by omega) (by omega)
    omega
  · have : 1 * b ≤ gg p q * b := Int.mul_le_mul_of_nonneg_right (by omega) (by omega)
    omega
/-- lowest terms are told by the cross product -/
theorem dvd_of {b d a c : Int} (g : Int.gcd a b = 1) (h : a * d = c * b) : b ∣ d := by
  have h1 : b.natAbs ∣ a.natAbs * d.natAbs := by
    rw [← Int.natAbs_mul, h, Int.natAbs_mul]
    exact Nat.dvd_mul_left _ _
  have co : Nat.Coprime b.natAbs a.natAbs := by
    rw [Nat.coprime_comm]
    exact g
  exact Int.natAbs_dvd_natAbs.mp (co.dvd_of_dvd_mul_left h1)
theorem cross {a b c d : Int} (hb : 0 < b) (hd : 0 < d) (h1 : gg a b = 1) (h2 : gg c d = 1) (h : a * d = c * b) : a = c ∧ b = d := by
  have g1 : Int.gcd a b = 1 := by have : ((Int.gcd a b : Nat) : Int) = 1 := h1; omega
  have g2 : Int.gcd c d = 1 := by have : ((Int.gcd c d : Nat) : Int) = 1 := h2; omega
  have e : b = d := Int.dvd_antisymm (by omega) (by omega) (dvd_of g1 h) (dvd_of g2 h.symm)
  subst e
  exact ⟨Int.eq_of_mul_eq_mul_right (by omega) h, rfl⟩
theorem low_eq {p q r s : Int} (hp : 0 < p) (hq : 0 < q) (hr : 0 < r) (hs : 0 < s) (h : p * s = r * q) : low p q = low r s := by
  obtain ⟨a, b, e1, a1, b1, g1, x1, _⟩ := low_spec hp hq
  obtain ⟨c, d, e2, c1, d1, g2, x2, _⟩ := low_spec hr hs
  have key : a * d = c * b := by
    have h1 : (a * d) * (q * s) = (c * b) * (q * s) := by
      calc (a * d) * (q * s) = (a * q) * (d * s) := by grind
        _ = (p * b) * (d * s) := by rw [x1]
        _ = (p * s) * (b * d) := by grind
        _ = (r * q) * (b * d) := by rw [h]
        _ = (r * d) * (b * q) := by grind
        _ = (c * s) * (b * q) := by rw [x2]
        _ = (c * b) * (q * s) := by grind
    exact Int.eq_of_mul_eq_mul_right (by have := Int.mul_pos hq hs; omega) h1
  obtain ⟨h1, h2⟩ := cross b1 d1 g1 g2 key
  rw [e1, e2, h1, h2]
theorem low_self {a b : Int} (ha : 0 < a) (hb : 0 < b) (g : gg a b = 1) : low a b = .tuple [.int a, .int b] := by
  unfold low
  rw [g]
  simp
/-! ### residues and counts: 0 is not there -/
def dz (r : Int) : D := if r = 0 then .none else .int r
theorem dz_zero : dz 0 = .none := rfl
theorem dz_ne {r : Int} (h : r ≠ 0) : dz r = .int r := by simp [dz, h]
theorem left_dz {m : Int} (hm : 2 ≤ m) (n : Int) : left m n = dz (n % m) := by
  have := Int.emod_nonneg n (show m ≠ 0 by omega)
  unfold left dz
  by_cases h : n % m = 0
  · rw [if_neg (by omega), if_pos h]
  · rw [if_pos (by omega), if_neg h]
theorem ok_lf {m : Int} {x : D} (h : okNum (.lf m) x) : ∃ r, x = dz r ∧ 0 ≤ r ∧ (r = 0 ∨ r < m) := by
  rcases h with h | h
  · exact ⟨0, h, by omega, .inl rfl⟩
  · cases x <;> simp [isNum] at h
    rename_i k
    exact ⟨k, (dz_ne (by omega)).symm, by omega, .inr h.2⟩
theorem ok_ct {x : D} (h : okNum .ct x) : ∃ r, x = dz r ∧ 0 ≤ r := by
  rcases h with h | h
  · exact ⟨0, h, by omega⟩
  · cases x <;> simp [isNum] at h
    rename_i k
    exact ⟨k, (dz_ne (by omega)).symm, by omega⟩
theorem dz_ct {r : Int} (h : 0 ≤ r) : okNum .ct (dz r) := by
  by_cases z : r = 0
  · subst z; exact .inl rfl
  · rw [dz_ne z]; exact .inr (by simp [isNum]; omega)
theorem dz_lf {m r : Int} (h : 0 ≤ r) (l : r = 0 ∨ r < m) : okNum (.lf m) (dz r) := by
  by_cases z : r = 0
  · subst z; exact .inl rfl
  · rw [dz_ne z]; exact .inr (by simp [isNum]; omega)
theorem add_nl (W : Way) (y : D) : addD W .none y = y := by cases y <;> rfl
theorem add_nr (W : Way) (x : D) : addD W x .none = x := by cases x <;> rfl
theorem mul_nl (W : Way) (y : D) : mulD W .none y = .none := by cases y <;> rfl
theorem mul_nr (W : Way) (x : D) : mulD W x .none = .none := by
  cases x <;> first | rfl | (simp [mulD])
theorem add_ct {r s : Int} (hr : 0 ≤ r) (hs : 0 ≤ s) : addD .ct (dz r) (dz s) = dz (r + s) := by
  by_cases a : r = 0
  · subst a; rw [dz_zero, add_nl]; simp
  · by_cases b : s = 0
    · subst b; rw [dz_zero, add_nr]; simp
    · rw [dz_ne a, dz_ne b, dz_ne (by omega)]; rfl
theorem mul_ct {r s : Int} (hr : 0 ≤ r) (hs : 0 ≤ s) : mulD .ct (dz r) (dz s) = dz (r * s) := by
  by_cases a : r = 0
  · subst a; rw [dz_zero, mul_nl, Int.zero_mul]; rfl
  · by_cases b : s = 0
    · subst b; rw [dz_zero, mul_nr, Int.mul_zero]; rfl
    · rw [dz_ne a, dz_ne b, dz_ne (Int.mul_ne_zero a b)]; rfl
theorem emod_small {r m : Int} (h : 0 ≤ r) (l : r = 0 ∨ r < m) : r % m = r := by
  rcases l with l | l
  · subst l; simp
  · exact Int.emod_eq_of_lt h l
theorem add_lf {m r s : Int} (hm : 2 ≤ m) (hr : 0 ≤ r) (lr : r = 0 ∨ r < m) (hs : 0 ≤ s) (ls : s = 0 ∨ s < m) : addD (.lf m) (dz r) (dz s) = dz ((r + s) % m) := by
  by_cases a : r = 0
  · subst a; rw [dz_zero, add_nl, Int.zero_add, emod_small hs ls]
  · by_cases b : s = 0
    · subst b; rw [dz_zero, add_nr, Int.add_zero, emod_small hr lr]
    · rw [dz_ne a, dz_ne b, ← left_dz hm]; rfl
theorem mul_lf {m r s : Int} (hm : 2 ≤ m) : mulD (.lf m) (dz r) (dz s) = dz ((r * s) % m) := by
  by_cases a : r = 0
  · subst a; rw [dz_zero, mul_nl, Int.zero_mul]; simp [dz]
  · by_cases b : s = 0
    · subst b; rw [dz_zero, mul_nr, Int.mul_zero]; simp [dz]
    · rw [dz_ne a, dz_ne b, ← left_dz hm]; rfl
theorem res_ok {m : Int} (hm : 2 ≤ m) (n : Int) : 0 ≤ n % m ∧ (n % m = 0 ∨ n % m < m) := ⟨Int.emod_nonneg _ (by omega), .inr (Int.emod_lt_of_pos _ (by omega))⟩
/-! ### fractions: 0 is not there -/
def fz (p q : Int) : D := if p = 0 then .none else low p q
theorem fz_eq {p q r s : Int} (hp : 0 ≤ p) (hq : 0 < q) (hr : 0 ≤ r) (hs : 0 < s) (h : p * s = r * q) : fz p q = fz r s := by
  unfold fz
  by_cases a : p = 0
  · subst a
    have : r = 0 := by
      have h2 : r * q = 0 := by rw [← h, Int.zero_mul]
      rcases Int.mul_eq_zero.mp h2 with z | z
      · exact z
      · omega
    subst this
    rfl
  · have b : r ≠ 0 := fun z => by
      subst z
      rw [Int.zero_mul] at h
      rcases Int.mul_eq_zero.mp h with z | z
      · exact a z
      · omega
    rw [if_neg a, if_neg b]
    exact low_eq (by omega) hq (by omega) hs h
theorem ok_ch {x : D} (h : okNum .ch x) : ∃ p q, x = fz p q ∧ 0 ≤ p ∧ 0 < q := by
  rcases h with h | h
  · exact ⟨0, 1, h, by omega, by omega⟩
  · unfold isNum at h
    split at h <;> simp_all
    rename_i p q
    refine ⟨p, q, ?_, by omega, by omega⟩
    unfold fz
    rw [if_neg (by omega), low_self (by omega) (by omega) (by omega)]
theorem fz_ok {p q : Int} (hp : 0 ≤ p) (hq : 0 < q) : okNum .ch (fz p q) := by
  unfold fz
  by_cases a : p = 0
  · rw [if_pos a]; exact .inl rfl
  · rw [if_neg a]
    obtain ⟨a, b, e1, a1, b1, g1, _⟩ := low_spec (p := p) (by omega) hq
    rw [e1]
    exact .inr (by simp [isNum, a1, b1, g1])
theorem fz_cases {p q : Int} (hp : 0 ≤ p) (hq : 0 < q) : (p = 0 ∧ fz p q = .none) ∨ (0 < p ∧ ∃ a b : Int, fz p q = .tuple [.int a, .int b] ∧ 0 < a ∧ 0 < b ∧ a * q = p * b) := by
  unfold fz
  by_cases a : p = 0
  · exact .inl ⟨a, if_pos a⟩
  · obtain ⟨x, y, e1, a1, b1, g1, x1, _⟩ := low_spec (p := p) (by omega) hq
    exact .inr ⟨by omega, x, y, by rw [if_neg a, e1], a1, b1, x1⟩
theorem fz_pos {p q : Int} (h : 0 < p) : fz p q = low p q := by
  unfold fz
  rw [if_neg (by omega)]
theorem add_ch {p q r s : Int} (hp : 0 ≤ p) (hq : 0 < q) (hr : 0 ≤ r) (hs : 0 < s) : addD .ch (fz p q) (fz r s) = fz (p * s + r * q) (q * s) := by
  have qs := Int.mul_pos hq hs
  rcases fz_cases hp hq with ⟨z, e⟩ | ⟨z, a, b, e, a1, b1, x1⟩
  · rw [e, add_nl, z]
    exact fz_eq hr hs (by rw [Int.zero_mul, Int.zero_add]; exact Int.mul_nonneg hr (by omega)) qs (by grind)
  · rcases fz_cases hr hs with ⟨z2, e2⟩ | ⟨z2, c, d, e2, c1, d1, x2⟩
    · rw [e2, add_nr, z2]
      exact fz_eq hp hq (by rw [Int.zero_mul, Int.add_zero]; exact Int.mul_nonneg hp (by omega)) qs (by grind)
    · rw [e, e2]
      have p1 := Int.mul_pos z hs
      have p2 := Int.mul_pos z2 hq
      have p3 := Int.mul_pos a1 d1
      have p4 := Int.mul_pos c1 b1
      rw [fz_pos (by omega)]
      show low (a * d + c * b) (b * d) = _
      refine low_eq (by omega) (Int.mul_pos b1 d1) (by omega) qs ?_
      calc (a * d + c * b) * (q * s) = (a * q) * (d * s) + (c * s) * (b * q) := by grind
        _ = (p * b) * (d * s) + (r * d) * (b * q) := by rw [x1, x2]
        _ = (p * s + r * q) * (b * d) := by grind
theorem mul_ch {p q r s : Int} (hp : 0 ≤ p) (hq : 0 < q) (hr : 0 ≤ r) (hs : 0 < s) : mulD .ch (fz p q) (fz r s) = fz (p * r) (q * s) := by
  have qs := Int.mul_pos hq hs
  rcases fz_cases hp hq with ⟨z, e⟩ | ⟨z, a, b, e, a1, b1, x1⟩
  · rw [e, mul_nl, z, Int.zero_mul]
    rfl
  · rcases fz_cases hr hs with ⟨z2, e2⟩ | ⟨z2, c, d, e2, c1, d1, x2⟩
    · rw [e2, mul_nr, z2, Int.mul_zero]
      rfl
    · rw [e, e2]
      have p1 := Int.mul_pos z z2
      have p3 := Int.mul_pos a1 c1
      rw [fz_pos p1]
      show low (a * c) (b * d) = _
      refine low_eq p3 (Int.mul_pos b1 d1) p1 qs ?_
      calc (a * c) * (q * s) = (a * q) * (c * s) := by grind
        _ = (p * b) * (r * d) := by rw [x1, x2]
        _ = (p * r) * (b * d) := by grind
theorem ok_wh {x : D} (h : okNum .wh x) : x = .none ∨ x = .int 1 := by
  rcases h with h | h
  · exact .inl h
  · cases x <;> simp [isNum] at h
    exact .inr (by rw [h])
theorem ok_co {x : D} (h : okNum .co x) : x = .none ∨ ∃ k, x = .int k := by
  rcases h with h | h
  · exact .inl h
  · cases x <;> simp [isNum] at h
    exact .inr ⟨_, rfl⟩
/-! ### the laws of sums and products -/
theorem add_comm {W : Way} {x y : D} (hW : W.ok) (hx : okNum W x) (hy : okNum W y) : addD W x y = addD W y x := by
  cases W with
  | wh =>
    rcases ok_wh hx with rfl | rfl <;> rcases ok_wh hy with rfl | rfl <;> rfl
  | ct =>
    obtain ⟨r, rfl, hr⟩ := ok_ct hx
    obtain ⟨s, rfl, hs⟩ := ok_ct hy
    rw [add_ct hr hs, add_ct hs hr, Int.add_comm]
  | ch =>
    obtain ⟨p, q, rfl, hp, hq⟩ := ok_ch hx
    obtain ⟨r, s, rfl, hr, hs⟩ := ok_ch hy
    rw [add_ch hp hq hr hs, add_ch hr hs hp hq, Int.add_comm, Int.mul_comm q s]
  | co =>
    rcases ok_co hx with rfl | ⟨i, rfl⟩ <;> rcases ok_co hy with rfl | ⟨j, rfl⟩ <;> try rfl
    simp only [addD, addI]
    congr 1
    split <;> split <;> omega
  | lf m =>
    obtain ⟨r, rfl, hr, lr⟩ := ok_lf hx
    obtain ⟨s, rfl, hs, ls⟩ := ok_lf hy
    rw [add_lf hW.1 hr lr hs ls, add_lf hW.1 hs ls hr lr, Int.add_comm]
theorem mul_comm {W : Way} {x y : D} (hW : W.ok) (hx : okNum W x) (hy : okNum W y) : mulD W x y = mulD W y x := by
  cases W with
  | wh =>
    rcases ok_wh hx with rfl | rfl <;> rcases ok_wh hy with rfl | rfl <;> rfl
  | ct =>
    obtain ⟨r, rfl, hr⟩ := ok_ct hx
    obtain ⟨s, rfl, hs⟩ := ok_ct hy
    rw [mul_ct hr hs, mul_ct hs hr, Int.mul_comm]
  | ch =>
    obtain ⟨p, q, rfl, hp, hq⟩ := ok_ch hx
    obtain ⟨r, s, rfl, hr, hs⟩ := ok_ch hy
    rw [mul_ch hp hq hr hs, mul_ch hr hs hp hq, Int.mul_comm p r, Int.mul_comm q s]
  | co =>
    rcases ok_co hx with rfl | ⟨i, rfl⟩ <;> rcases ok_co hy with rfl | ⟨j, rfl⟩ <;> try rfl
    simp only [mulD, mulI]
    rw [Int.add_comm]
  | lf m =>
    obtain ⟨r, rfl, hr, lr⟩ := ok_lf hx
    obtain ⟨s, rfl, hs, ls⟩ := ok_lf hy
    rw [mul_lf hW.1, mul_lf hW.1, Int.mul_comm]
theorem add_ok {W : Way} {x y : D} (hW : W.ok) (hx : okNum W x) (hy : okNum W y) : okNum W (addD W x y) := by
  cases W with
  | wh =>
    rcases ok_wh hx with rfl | rfl <;> rcases ok_wh hy with rfl | rfl <;> first | exact .inl rfl | exact .inr rfl
  | ct =>
    obtain ⟨r, rfl, hr⟩ := ok_ct hx
    obtain ⟨s, rfl, hs⟩ := ok_ct hy
    rw [add_ct hr hs]
    exact dz_ct (by omega)
  | ch =>
    obtain ⟨p, q, rfl, hp, hq⟩ := ok_ch hx
    obtain ⟨r, s, rfl, hr, hs⟩ := ok_ch hy
    rw [add_ch hp hq hr hs]
    have := Int.mul_nonneg hp (show 0 ≤ s by omega)
    have := Int.mul_nonneg hr (show 0 ≤ q by omega)
    exact fz_ok (by omega) (Int.mul_pos hq hs)
  | co =>
    rcases ok_co hx with rfl | ⟨i, rfl⟩ <;> rcases ok_co hy with rfl | ⟨j, rfl⟩ <;> first | exact .inl rfl | exact .inr rfl
  | lf m =>
    obtain ⟨r, rfl, hr, lr⟩ := ok_lf hx
    obtain ⟨s, rfl, hs, ls⟩ := ok_lf hy
    rw [add_lf hW.1 hr lr hs ls]
    exact dz_lf (res_ok hW.1 _).1 (res_ok hW.1 _).2
theorem mul_ok {W : Way} {x y : D} (hW : W.ok) (hx : okNum W x) (hy : okNum W y) : okNum W (mulD W x y) := by
  cases W with
  | wh =>
    rcases ok_wh hx with rfl | rfl <;> rcases ok_wh hy with rfl | rfl <;> first | exact .inl rfl | exact .inr rfl
  | ct =>
    obtain ⟨r, rfl, hr⟩ := ok_ct hx
    obtain ⟨s, rfl, hs⟩ := ok_ct hy
    rw [mul_ct hr hs]
    exact dz_ct (Int.mul_nonneg hr hs)
  | ch =>
    obtain ⟨p, q, rfl, hp, hq⟩ := ok_ch hx
    obtain ⟨r, s, rfl, hr, hs⟩ := ok_ch hy
    rw [mul_ch hp hq hr hs]
    exact fz_ok (Int.mul_nonneg hp hr) (Int.mul_pos hq hs)
  | co =>
    rcases ok_co hx with rfl | ⟨i, rfl⟩ <;> rcases ok_co hy with rfl | ⟨j, rfl⟩ <;> first | exact .inl rfl | exact .inr rfl
  | lf m =>
    obtain ⟨r, rfl, hr, lr⟩ := ok_lf hx
    obtain ⟨s, rfl, hs, ls⟩ := ok_lf hy
    rw [mul_lf hW.1]
    exact dz_lf (res_ok hW.1 _).1 (res_ok hW.1 _).2
theorem add_assoc {W : Way} {x y z : D} (hW : W.ok) (hx : okNum W x) (hy : okNum W y) (hz : okNum W z) : addD W (addD W x y) z = addD W x (addD W y z) := by
  cases W with
  | wh =>
    rcases ok_wh hx with rfl | rfl <;> rcases ok_wh hy with rfl | rfl <;> rcases ok_wh hz with rfl | rfl <;> rfl
  | ct =>
    obtain ⟨r, rfl, hr⟩ := ok_ct hx
    obtain ⟨s, rfl, hs⟩ := ok_ct hy
    obtain ⟨t, rfl, ht⟩ := ok_ct hz
    rw [add_ct hr hs, add_ct (by omega) ht, add_ct hs ht, add_ct hr (by omega), Int.add_assoc]
  | ch =>
    obtain ⟨p, q, rfl, hp, hq⟩ := ok_ch hx
    obtain ⟨r, s, rfl, hr, hs⟩ := ok_ch hy
    obtain ⟨u, v, rfl, hu, hv⟩ := ok_ch hz
    have n1 : 0 ≤ p * s + r * q := Int.add_nonneg (Int.mul_nonneg hp (by omega)) (Int.mul_nonneg hr (by omega))
    have n2 : 0 ≤ r * v + u * s := Int.add_nonneg (Int.mul_nonneg hr (by omega)) (Int.mul_nonneg hu (by omega))
    have d1 := Int.mul_pos hq hs
    have d2 := Int.mul_pos hs hv
    rw [add_ch hp hq hr hs, add_ch n1 d1 hu hv, add_ch hr hs hu hv, add_ch hp hq n2 d2]
    congr 1
    · grind
    · rw [Int.mul_assoc]
  | co =>
    rcases ok_co hx with rfl | ⟨i, rfl⟩ <;> rcases ok_co hy with rfl | ⟨j, rfl⟩ <;> rcases ok_co hz with rfl | ⟨k, rfl⟩ <;> try rfl
    simp only [addD, addI]
    congr 1
    (repeat' split) <;> omega
  | lf m =>
    obtain ⟨r, rfl, hr, lr⟩ := ok_lf hx
    obtain ⟨s, rfl, hs, ls⟩ := ok_lf hy
    obtain ⟨t, rfl, ht, lt⟩ := ok_lf hz
    have h1 := res_ok hW.1 (r + s)
    have h2 := res_ok hW.1 (s + t)
    rw [add_lf hW.1 hr lr hs ls, add_lf hW.1 h1.1 h1.2 ht lt, add_lf hW.1 hs ls ht lt, add_lf hW.1 hr lr h2.1 h2.2, Int.emod_add_emod, Int.add_emod_emod, Int.add_assoc]
theorem distrib {W : Way} {x y z : D} (hW : W.ok) (hz : okNum W z) (hx : okNum W x) (hy : okNum W y) : mulD W z (addD W x y) = addD W (mulD W z x) (mulD W z y) := by
  cases W with
  | wh =>
    rcases ok_wh hx with rfl | rfl <;> rcases ok_wh hy with rfl | rfl <;> rcases ok_wh hz with rfl | rfl <;> rfl
  | ct =>
    obtain ⟨r, rfl, hr⟩ := ok_ct hx
    obtain ⟨s, rfl, hs⟩ := ok_ct hy
    obtain ⟨t, rfl, ht⟩ := ok_ct hz
    rw [add_ct hr hs, mul_ct ht (by omega), mul_ct ht hr, mul_ct ht hs, add_ct (Int.mul_nonneg ht hr) (Int.mul_nonneg ht hs), Int.mul_add]
  | ch =>
    obtain ⟨p, q, rfl, hp, hq⟩ := ok_ch hx
    obtain ⟨r, s, rfl, hr, hs⟩ := ok_ch hy
    obtain ⟨u, v, rfl, hu, hv⟩ := ok_ch hz
    have n1 : 0 ≤ p * s + r * q := Int.add_nonneg (Int.mul_nonneg hp (by omega)) (Int.mul_nonneg hr (by omega))
    have d1 := Int.mul_pos hq hs
    have d2 := Int.mul_pos hv hq
    have d3 := Int.mul_pos hv hs
    have n2 := Int.mul_nonneg hu hp
    have n3 := Int.mul_nonneg hu hr
    rw [add_ch hp hq hr hs, mul_ch hu hv n1 d1, mul_ch hu hv hp hq, mul_ch hu hv hr hs, add_ch n2 d2 n3 d3]
    refine fz_eq (Int.mul_nonneg hu n1) (Int.mul_pos hv d1) (Int.add_nonneg (Int.mul_nonneg n2 (by omega)) (Int.mul_nonneg n3 (by omega))) (Int.mul_pos d2 d3) ?_
    grind
  | co =>
    rcases ok_co hx with rfl | ⟨i, rfl⟩ <;> rcases ok_co hy with rfl | ⟨j, rfl⟩ <;> rcases ok_co hz with rfl | ⟨k, rfl⟩ <;> try rfl
    simp only [addD, addI, mulD, mulI]
    congr 1
    (repeat' split) <;> omega
  | lf m =>
    obtain ⟨r, rfl, hr, lr⟩ := ok_lf hx
    obtain ⟨s, rfl, hs, ls⟩ := ok_lf hy
    obtain ⟨t, rfl, ht, lt⟩ := ok_lf hz
    have h1 := res_ok hW.1 (t * r)
    have h2 := res_ok hW.1 (t * s)
    rw [add_lf hW.1 hr lr hs ls, mul_lf hW.1, mul_lf hW.1, mul_lf hW.1, add_lf hW.1 h1.1 h1.2 h2.1 h2.2, ← Int.add_emod, ← Int.mul_add, Int.mul_emod, Int.emod_emod, ← Int.mul_emod]
theorem mul_unit {W : Way} {x : D} (hW : W.ok) (hx : okNum W x) : mulD W x (one W) = x := by
  cases W with
  | wh =>
    rcases ok_wh hx with rfl | rfl <;> rfl
  | ct =>
    obtain ⟨r, rfl, hr⟩ := ok_ct hx
    show mulD .ct (dz r) (dz 1) = _
    rw [mul_ct hr (by omega), Int.mul_one]
  | ch =>
    rcases hx with rfl | h
    · rfl
    · unfold isNum at h
      split at h <;> simp_all
      rename_i p q
      show low (p * 1) (q * 1) = _
      rw [Int.mul_one, Int.mul_one, low_self (by omega) (by omega) (by omega)]
  | co =>
    rcases ok_co hx with rfl | ⟨i, rfl⟩
    · rfl
    · simp [mulD, mulI, one]
  | lf m =>
    obtain ⟨r, rfl, hr, lr⟩ := ok_lf hx
    show mulD (.lf m) (dz r) (dz 1) = _
    rw [mul_lf hW.1, Int.mul_one, emod_small hr lr]
end LK
end
section
set_option Elab.async false
set_option linter.all false
set_option maxRecDepth 100000
set_option maxHeartbeats 4000000
set_option autoImplicit false
/-! KN: sizes of numbers. -/
namespace LK
open PySem PL
theorem log_mul {i j : Int} (hi : i.natAbs < 2 ^ 8000) (hj : j.natAbs < 2 ^ 8000) : i.natAbs.log2 + j.natAbs.log2 < 1000000 := by
  have h1 := log_lt hi (by decide)
  have h2 := log_lt hj (by decide)
  omega
theorem nb_le {i : Int} {A B : Nat} (h : i.natAbs < 2 ^ A) (l : A ≤ B) : i.natAbs < 2 ^ B := Nat.lt_of_lt_of_le h (Nat.pow_le_pow_right (by decide) l)
theorem nb_mul {i j : Int} {A B : Nat} (hi : i.natAbs < 2 ^ A) (hj : j.natAbs < 2 ^ B) : (i * j).natAbs < 2 ^ (A + B) := by
  rw [Int.natAbs_mul, Nat.pow_add]
  by_cases z : j.natAbs = 0
  · rw [z, Nat.mul_zero]
    exact Nat.mul_pos (Nat.two_pow_pos A) (Nat.two_pow_pos B)
  · exact Nat.mul_lt_mul_of_lt_of_le hi (Nat.le_of_lt hj) (Nat.two_pow_pos B)
theorem nb_add {i j : Int} {B : Nat} (hi : i.natAbs < 2 ^ B) (hj : j.natAbs < 2 ^ B) : (i + j).natAbs < 2 ^ (B + 1) := by
  have := Int.natAbs_add_le i j
  rw [Nat.pow_succ]
  omega
theorem bd_le {A B : Nat} {x : D} (h : bd A x) (l : A ≤ B) : bd B x := by
  unfold bd at h ⊢
  split at h
  · exact nb_le h l
  · exact ⟨nb_le h.1 l, nb_le h.2 l⟩
  · trivial
  · exact h.elim
theorem low_bd {p q : Int} {B : Nat} (hp : 0 < p) (hq : 0 < q) (h1 : p.natAbs < 2 ^ B) (h2 : q.natAbs < 2 ^ B) : bd B (low p q) := by
  obtain ⟨a, b, e, a1, b1, _, _, l1, l2⟩ := low_spec hp hq
  rw [e]
  exact ⟨by omega, by omega⟩
theorem left_bd {m n : Int} {B : Nat} (hm : 2 ≤ m) (hm2 : m ≤ 1000) (hB : 10 ≤ B) : bd B (left m n) := by
  have h1 := Int.emod_nonneg n (show m ≠ 0 by omega)
  have h2 := Int.emod_lt_of_pos n (show 0 < m by omega)
  unfold left
  split
  · have : (n % m).natAbs < 2 ^ 10 := by
      have e : (2 : Nat) ^ 10 = 1024 := by decide
      rw [e]
      omega
    exact nb_le this hB
  · trivial
theorem num_fr {x : D} (h : isNum .ch x = true) : ∃ p q : Int, x = .tuple [.int p, .int q] ∧ 0 < p ∧ 0 < q ∧ gg p q = 1 := by
  unfold isNum at h
  split at h
  · rename_i p q _
    simp only [Bool.and_eq_true, decide_eq_true_eq] at h
    exact ⟨p, q, rfl, h.2, h.1.1, h.1.2⟩
  all_goals simp_all
theorem num_int {W : Way} {x : D} (n : W ≠ .ch) (h : isNum W x = true) : ∃ k : Int, x = .int k := by
  cases x <;> cases W <;> simp_all [isNum]
theorem addI_bd {W : Way} {i j : Int} {B : Nat} (hW : W.ok) (hB : 10 ≤ B) (hi : i.natAbs < 2 ^ B) (hj : j.natAbs < 2 ^ B) : bd (B + B + 1) (addI W i j) := by
  have hs := nb_add hi hj
  cases W with
  | wh => exact nb_le (A := 1) (by decide) (by omega)
  | ct => exact nb_le hs (by omega)
  | co =>
    show bd _ (.int (if j < i then j else i))
    split
    · exact nb_le hj (by omega)
    · exact nb_le hi (by omega)
  | lf m => exact left_bd hW.1 hW.2 (by omega)
  | ch => trivial
theorem mulI_bd {W : Way} {i j : Int} {B : Nat} (hW : W.ok) (hB : 10 ≤ B) (hi : i.natAbs < 2 ^ B) (hj : j.natAbs < 2 ^ B) : bd (B + B + 1) (mulI W i j) := by
  have hs := nb_add hi hj
  have hm := nb_mul hi hj
  cases W with
  | wh => exact nb_le (A := 1) (by decide) (by omega)
  | ct => exact nb_le hm (by omega)
  | co => exact nb_le hs (by omega)
  | lf m => exact left_bd hW.1 hW.2 (by omega)
  | ch => trivial
theorem add_bd {W : Way} {x y : D} {B : Nat} (hW : W.ok) (hB : 10 ≤ B) (hx : okNum W x) (hy : okNum W y) (bx : bd B x) (bY : bd B y) : bd (B + B + 1) (addD W x y) := by
  rcases hx with rfl | hx
  · rw [add_nl]; exact bd_le bY (by omega)
  rcases hy with rfl | hy
  · rw [add_nr]; exact bd_le bx (by omega)
  by_cases c : W = .ch
  · subst c
    obtain ⟨p, q, rfl, p1, q1, _⟩ := num_fr hx
    obtain ⟨r, s, rfl, r1, s1, _⟩ := num_fr hy
    have h1 := Int.mul_pos p1 s1
    have h2 := Int.mul_pos r1 q1
    exact low_bd (by omega) (Int.mul_pos q1 s1) (nb_add (nb_mul bx.1 bY.2) (nb_mul bY.1 bx.2)) (nb_le (nb_mul bx.2 bY.2) (by omega))
  · obtain ⟨i, rfl⟩ := num_int c hx
    obtain ⟨j, rfl⟩ := num_int c hy
    exact addI_bd hW hB bx bY
theorem mul_bd {W : Way} {x y : D} {B : Nat} (hW : W.ok) (hB : 10 ≤ B) (hx : okNum W x) (hy : okNum W y) (bx : bd B x) (bY : bd B y) : bd (B + B + 1) (mulD W x y) := by
  rcases hx with rfl | hx
  · rw [mul_nl]; trivial
  rcases hy with rfl | hy
  · rw [mul_nr]; trivial
  by_cases c : W = .ch
  · subst c
    obtain ⟨p, q, rfl, p1, q1, _⟩ := num_fr hx
    obtain ⟨r, s, rfl, r1, s1, _⟩ := num_fr hy
    exact low_bd (Int.mul_pos p1 r1) (Int.mul_pos q1 s1) (nb_le (nb_mul bx.1 bY.1) (by omega)) (nb_le (nb_mul bx.2 bY.2) (by omega))
  · obtain ⟨i, rfl⟩ := num_int c hx
    obtain ⟨j, rfl⟩ := num_int c hy
    exact mulI_bd hW hB bx bY
theorem non_cases {W : Way} {x : D} (h : okNum W x) : (isNonD x = true ∧ x = .none) ∨ (isNonD x = false ∧ isNum W x = true) := by
  rcases h with rfl | h
  · exact .inl ⟨rfl, rfl⟩
  · cases x <;> first | exact .inr ⟨rfl, h⟩ | (simp [isNum] at h)
/-- the way that such a value is -/
def toWay (x : D) : Way := match x with
  | .tuple (.str s :: r) => if s == PySem.Str.ofString "left" then (match r with | [.int m] => .lf m | _ => .wh) else if s == PySem.Str.ofString "count" then .ct else if s == PySem.Str.ofString "chance" then .ch else if s == PySem.Str.ofString "cost" then .co else .wh
  | _ => .wh
end LK
end
section
set_option Elab.async false
set_option linter.all false
set_option maxRecDepth 100000
set_option maxHeartbeats 4000000
set_option autoImplicit false
namespace LK
open PySem PySem.Spec PyProof.Rows L2 PL
abbrev prog : Program := PySem.Challenge.pw_pairwhole_k20_whole_numbers_in_five_ways
def top (i : Nat) : Stmt := prog.main.body.getD i (.Pass ⟨0, 0, 0, 0⟩)
abbrev s_is_integer : Stmt := top 6
abbrev s_is_within : Stmt := top 7
abbrev s_is_tuple_of : Stmt := top 8
abbrev s_is_way : Stmt := top 17
abbrev s_need_way : Stmt := top 18
abbrev s_fraction_of : Stmt := top 19
abbrev s_is_fraction : Stmt := top 20
abbrev s_is_number_in : Stmt := top 21
abbrev s_one_in : Stmt := top 22
abbrev s_left_by : Stmt := top 23
abbrev s_added_by : Stmt := top 24
abbrev s_multiplied_by : Stmt := top 25
abbrev s_way_one : Stmt := top 26
abbrev s_is_way_number : Stmt := top 27
abbrev s_need_numbers : Stmt := top 28
abbrev s_added_numbers : Stmt := top 29
abbrev s_multiplied_numbers : Stmt := top 30
abbrev s__law_mixed : Stmt := top 32
abbrev s__law_folded : Stmt := top 33
abbrev s__law_draw : Stmt := top 34
abbrev s__law_begun : Stmt := top 35
abbrev s__law_of : Stmt := top 36
abbrev s__law_like : Stmt := top 37
abbrev s__law_is_whole : Stmt := top 38
abbrev s__law_are_whole : Stmt := top 39
abbrev s__law_lowest : Stmt := top 40
abbrev s__law_plus : Stmt := top 41
abbrev s__law_times : Stmt := top 42
abbrev s__law_unit : Stmt := top 43
abbrev s__law_drawn_way : Stmt := top 44
abbrev s__law_drawn_number : Stmt := top 45
abbrev s__law_vast : Stmt := top 46
abbrev s__law_number : Stmt := top 47
abbrev s__law_is_number : Stmt := top 48
abbrev s__law_refused : Stmt := top 49
abbrev s_law : Stmt := top 50
structure Txt (K : PySem.W.Frag) (mg : Str → Option Value) (ca : Str → Addr) : Prop where
  a_is_integer : At K mg "is_integer" s_is_integer ["value"]
  a_is_within : At K mg "is_within" s_is_within ["value", "least", "most"]
  a_is_tuple_of : At K mg "is_tuple_of" s_is_tuple_of ["value", "many"]
  a_is_way : At K mg "is_way" s_is_way ["value"]
  a_need_way : At K mg "need_way" s_need_way ["way"]
  a_fraction_of : At K mg "fraction_of" s_fraction_of ["over", "under"]
  a_is_fraction : At K mg "is_fraction" s_is_fraction ["value"]
  a_is_number_in : At K mg "is_number_in" s_is_number_in ["way", "value"]
  a_one_in : At K mg "one_in" s_one_in ["way"]
  a_left_by : At K mg "left_by" s_left_by ["way", "number"]
  a_added_by : At K mg "added_by" s_added_by ["way", "one", "other"]
  a_multiplied_by : At K mg "multiplied_by" s_multiplied_by ["way", "one", "other"]
  a_way_one : At K mg "way_one" s_way_one ["way"]
  a_is_way_number : At K mg "is_way_number" s_is_way_number ["way", "value"]
  a_need_numbers : At K mg "need_numbers" s_need_numbers ["way", "numbers"]
  a_added_numbers : At K mg "added_numbers" s_added_numbers ["way", "one", "other"]
  a_multiplied_numbers : At K mg "multiplied_numbers" s_multiplied_numbers ["way", "one", "other"]
  a__law_mixed : At K mg "_law_mixed" s__law_mixed ["cell", "n"]
  a__law_folded : At K mg "_law_folded" s__law_folded ["script"]
  a__law_draw : At K mg "_law_draw" s__law_draw ["m", "limit"]
  a__law_begun : At K mg "_law_begun" s__law_begun ["script"]
  a__law_of : At K mg "_law_of" s__law_of ["m", "some"]
  a__law_like : At K mg "_law_like" s__law_like ["told", "due"]
  a__law_is_whole : At K mg "_law_is_whole" s__law_is_whole ["value"]
  a__law_are_whole : At K mg "_law_are_whole" s__law_are_whole ["value", "many"]
  a__law_lowest : At K mg "_law_lowest" s__law_lowest ["part", "whole"]
  a__law_plus : At K mg "_law_plus" s__law_plus ["way", "one", "far"]
  a__law_times : At K mg "_law_times" s__law_times ["way", "one", "far"]
  a__law_unit : At K mg "_law_unit" s__law_unit ["way"]
  a__law_drawn_way : At K mg "_law_drawn_way" s__law_drawn_way ["m"]
  a__law_drawn_number : At K mg "_law_drawn_number" s__law_drawn_number ["m", "way"]
  a__law_vast : At K mg "_law_vast" s__law_vast ["m"]
  a__law_number : At K mg "_law_number" s__law_number ["m", "way"]
  a__law_is_number : At K mg "_law_is_number" s__law_is_number ["way", "value"]
  a__law_refused : At K mg "_law_refused" s__law_refused ["call"]
  a_law : At K mg "law" s_law ["script"]
  b_len : mg "len" = none
  b_abs : mg "abs" = none
  b_min : mg "min" = none
  b_max : mg "max" = none
  b_int : mg "int" = none
  b_tuple : mg "tuple" = none
  b_list : mg "list" = none
  b_bool : mg "bool" = none
  b_str : mg "str" = none
  b_isinstance : mg "isinstance" = none
  b_range : mg "range" = none
  b_enumerate : mg "enumerate" = none
  b_zip : mg "zip" = none
  c_WHETHER : GlD K mg "WHETHER" (.str "whether")
  c_COUNT : GlD K mg "COUNT" (.str "count")
  c_CHANCE : GlD K mg "CHANCE" (.str "chance")
  c_COST : GlD K mg "COST" (.str "cost")
  c_LEFT : GlD K mg "LEFT" (.str "left")
  c_PLAIN : GlD K mg "PLAIN" (.tuple [.str "whether", .str "count", .str "chance", .str "cost"])
  c_MOST_LEFT : GlD K mg "MOST_LEFT" (.int 1000)
  i_gcd : mg "gcd" = some (.builtin "math.gcd")
  b_BadNumber : BadTxt prog K mg "BadNumber" "number" "number" (ca "BadNumber")
  b_BadWay : BadTxt prog K mg "BadWay" "way" "way" (ca "BadWay")
theorem st_0_0 : (PySem.Str.ofString "whether" == PySem.Str.ofString "whether") = true := by decide +kernel
theorem st_0_1 : (PySem.Str.ofString "whether" == PySem.Str.ofString "count") = false := by decide +kernel
theorem st_0_2 : (PySem.Str.ofString "whether" == PySem.Str.ofString "chance") = false := by decide +kernel
theorem st_0_3 : (PySem.Str.ofString "whether" == PySem.Str.ofString "cost") = false := by decide +kernel
theorem st_0_4 : (PySem.Str.ofString "whether" == PySem.Str.ofString "left") = false := by decide +kernel
theorem st_1_0 : (PySem.Str.ofString "count" == PySem.Str.ofString "whether") = false := by decide +kernel
theorem st_1_1 : (PySem.Str.ofString "count" == PySem.Str.ofString "count") = true := by decide +kernel
theorem st_1_2 : (PySem.Str.ofString "count" == PySem.Str.ofString "chance") = false := by decide +kernel
theorem st_1_3 : (PySem.Str.ofString "count" == PySem.Str.ofString "cost") = false := by decide +kernel
theorem st_1_4 : (PySem.Str.ofString "count" == PySem.Str.ofString "left") = false := by decide +kernel
theorem st_2_0 : (PySem.Str.ofString "chance" == PySem.Str.ofString "whether") = false := by decide +kernel
theorem st_2_1 : (PySem.Str.ofString "chance" == PySem.Str.ofString "count") = false := by decide +kernel
theorem st_2_2 : (PySem.Str.ofString "chance" == PySem.Str.ofString "chance") = true := by decide +kernel
theorem st_2_3 : (PySem.Str.ofString "chance" == PySem.Str.ofString "cost") = false := by decide +kernel
theorem st_2_4 : (PySem.Str.ofString "chance" == PySem.Str.ofString "left") = false := by decide +kernel
theorem st_3_0 : (PySem.Str.ofString "cost" == PySem.Str.ofString "whether") = false := by decide +kernel
theorem st_3_1 : (PySem.Str.ofString "cost" == PySem.Str.ofString "count") = false := by decide +kernel
theorem st_3_2 : (PySem.Str.ofString "cost" == PySem.Str.ofString "chance") = false := by decide +kernel
theorem st_3_3 : (PySem.Str.ofString "cost" == PySem.Str.ofString "cost") = true := by decide +kernel
theorem st_3_4 : (PySem.Str.ofString "cost" == PySem.Str.ofString "left") = false := by decide +kernel
theorem st_4_0 : (PySem.Str.ofString "left" == PySem.Str.ofString "whether") = false := by decide +kernel
theorem st_4_1 : (PySem.Str.ofString "left" == PySem.Str.ofString "count") = false := by decide +kernel
theorem st_4_2 : (PySem.Str.ofString "left" == PySem.Str.ofString "chance") = false := by decide +kernel
theorem st_4_3 : (PySem.Str.ofString "left" == PySem.Str.ofString "cost") = false := by decide +kernel
theorem st_4_4 : (PySem.Str.ofString "left" == PySem.Str.ofString "left") = true := by decide +kernel
theorem so_0 : PyData.strOk (PySem.Str.ofString "whether") = true := by decide +kernel
theorem so_1 : PyData.strOk (PySem.Str.ofString "count") = true := by decide +kernel
theorem so_2 : PyData.strOk (PySem.Str.ofString "chance") = true := by decide +kernel
theorem so_3 : PyData.strOk (PySem.Str.ofString "cost") = true := by decide +kernel
theorem so_4 : PyData.strOk (PySem.Str.ofString "left") = true := by decide +kernel
def isI : D → Bool
  | .int _ => true
  | _ => false
theorem ii_n : isI .none = false := rfl
theorem ii_b (b : Bool) : isI (.bool b) = false := rfl
theorem ii_i (i : Int) : isI (.int i) = true := rfl
theorem ii_s (s : Str) : isI (.str s) = false := rfl
theorem ii_l (xs : List D) : isI (.list xs) = false := rfl
theorem ii_t (xs : List D) : isI (.tuple xs) = false := rfl
theorem ii_d (k : List (D × D)) : isI (.dict k) = false := rfl
def sp_is_integer (ca : Str → Addr) : SpD := F1 (fun x => (tyD x).isSome = true) (fun x => .ok (.bool (isI x)))
theorem mo_is_integer {ca : Str → Addr} : SpMono (sp_is_integer ca) := F1.mo
theorem sc_is_integer : FnScope ["value"] ["value"] (defScope s_is_integer) := ⟨rfl, rfl, rfl, by decide +kernel, rfl, by decide +kernel, by decide +kernel⟩
theorem ok_is_integer {w : World} {K : PySem.W.Frag} {mg : Str → Option Value} {base : Heap} {ca : Str → Addr} (T : Txt K mg ca) : DOk prog w K mg base 1 "is_integer" ["value"] (sp_is_integer ca) := by
  refine dok T.a_is_integer sc_is_integer F1.len fun f cdv A outer s S F H E hr => ⟨_, (pxs_cons (pxs_ret (px_and (px_isi (by decide) rfl T.b_isinstance rfl T.b_int rfl (px_var 0 (pv 0))) (px_one (px_not (px_isi (by decide) rfl T.b_isinstance rfl T.b_bool rfl (px_var 0 (pv 0))))))) pxs_nil), ?_⟩
  rintro ds n Q ⟨x, rfl, hx, q⟩
  dsimp only at hx q
  cases x <;> simp [dVar, dC, dOp, dTest, dChain, dAnd, dOr, dNot, dAndV, dOrV, dNotV, dIf, dNil, dCons, dTup, dLst, dCallL, dRaiseL, dErr, dThunk, dNeg, dNoPart, dPart, dSl, dCB, dIsi, dNext, dSeq, dBreak, dCont, dIfS, dRet, dRetN, dDrop, dSet, dList, dLst', dSetO, dApp, dSetIx, dAsg, dPar, gNm, gNl, gCn, gTp, dSeqOf, dRange1, dRange2, dEnum, dZip, dFor, dForL, dYes, retD, startD, outD, F1_at, F2_at, F3_at, ex2, ex3, sizeLine_eq, rAddD, rMulD, rCmpD, rEqD', rIsD, rInD', rIxD, rLenD, rI0, rDivD, rModD, rPowD, rSubD, ty_n, ty_b, ty_i, ty_s, ty_l, ty_t, ty_d, it_n, it_b, it_i, it_s, it_l, it_t, it_d, fl_n, fl_b, fl_i, fl_s, nn_n, nn_b, nn_i, nn_s, nn_l, nn_t, ln_l, ln_t, ix0, ix1, ix2, ixl1, ixl2, ixl3, ii_n, ii_b, ii_i, ii_s, ii_l, ii_t, ii_d, ev_ii, ev_ss, ev_nn, ev_bb, ev_tt, ev_ll, ev_tn, ev_nt, ev_in, ev_ni, ev_it, ev_ti, ev_st, ev_ts, ev_si, ev_is, ea_nn, ea_nc, ea_cn, ea_cc, st_0_0, st_0_1, st_0_2, st_0_3, st_0_4, st_1_0, st_1_1, st_1_2, st_1_3, st_1_4, st_2_0, st_2_1, st_2_2, st_2_3, st_2_4, st_3_0, st_3_1, st_3_2, st_3_3, st_3_4, st_4_0, st_4_1, st_4_2, st_4_3, st_4_4, so_0, so_1, so_2, so_3, so_4, shp, PyData.canLay0, PyData.canLayAll0, PyData.depth, PyData.depthAll] at hx q ⊢ <;> exact q
def within : D → D → D → Bool
  | .int x, .int l, .int m => decide (l ≤ x) && decide (x ≤ m)
  | _, _, _ => false
def sp_is_within (ca : Str → Addr) : SpD := F3 (fun x l m => (tyD x).isSome = true ∧ isI l = true ∧ isI m = true) (fun x l m => .ok (.bool (within x l m)))
theorem mo_is_within {ca : Str → Addr} : SpMono (sp_is_within ca) := F3.mo
theorem sc_is_within : FnScope ["value", "least", "most"] ["value", "least", "most"] (defScope s_is_within) := ⟨rfl, rfl, rfl, by decide +kernel, rfl, by decide +kernel, by decide +kernel⟩
theorem ok_is_within {w : World} {K : PySem.W.Frag} {mg : Str → Option Value} {base : Heap} {ca : Str → Addr} (T : Txt K mg ca) (h_is_integer : DOk prog w K mg base 1 "is_integer" ["value"] (sp_is_integer ca)) : DOk prog w K mg base 2 "is_within" ["value", "least", "most"] (sp_is_within ca) := by
  refine dok T.a_is_within sc_is_within F3.len fun f cdv A outer s S F H E hr => ⟨_, (pxs_cons (pxs_ret (px_and (px_callL lets_cx h_is_integer mo_is_integer (hr.mono (by decide)) (pxa_cons (px_var 0 (pv 0)) pxa_nil)) (px_one (px_chain od_le od_le (px_var 1 (pv 1)) (px_var 0 (pv 0)) (px_var 2 (pv 2)))))) pxs_nil), ?_⟩
  rintro ds n Q ⟨x, y, z, rfl, hx, q⟩
  dsimp only at hx q
  cases y <;> cases z <;> cases x <;> simp [dVar, dC, dOp, dTest, dChain, dAnd, dOr, dNot, dAndV, dOrV, dNotV, dIf, dNil, dCons, dTup, dLst, dCallL, dRaiseL, dErr, dThunk, dNeg, dNoPart, dPart, dSl, dCB, dIsi, dNext, dSeq, dBreak, dCont, dIfS, dRet, dRetN, dDrop, dSet, dList, dLst', dSetO, dApp, dSetIx, dAsg, dPar, gNm, gNl, gCn, gTp, dSeqOf, dRange1, dRange2, dEnum, dZip, dFor, dForL, dYes, retD, startD, outD, F1_at, F2_at, F3_at, ex2, ex3, sizeLine_eq, rAddD, rMulD, rCmpD, rEqD', rIsD, rInD', rIxD, rLenD, rI0, rDivD, rModD, rPowD, rSubD, ty_n, ty_b, ty_i, ty_s, ty_l, ty_t, ty_d, it_n, it_b, it_i, it_s, it_l, it_t, it_d, fl_n, fl_b, fl_i, fl_s, nn_n, nn_b, nn_i, nn_s, nn_l, nn_t, ln_l, ln_t, ix0, ix1, ix2, ixl1, ixl2, ixl3, ii_n, ii_b, ii_i, ii_s, ii_l, ii_t, ii_d, ev_ii, ev_ss, ev_nn, ev_bb, ev_tt, ev_ll, ev_tn, ev_nt, ev_in, ev_ni, ev_it, ev_ti, ev_st, ev_ts, ev_si, ev_is, ea_nn, ea_nc, ea_cn, ea_cc, st_0_0, st_0_1, st_0_2, st_0_3, st_0_4, st_1_0, st_1_1, st_1_2, st_1_3, st_1_4, st_2_0, st_2_1, st_2_2, st_2_3, st_2_4, st_3_0, st_3_1, st_3_2, st_3_3, st_3_4, st_4_0, st_4_1, st_4_2, st_4_3, st_4_4, so_0, so_1, so_2, so_3, so_4, shp, PyData.canLay0, PyData.canLayAll0, PyData.depth, PyData.depthAll, sp_is_integer, within] at hx q ⊢ <;> (try split) <;> simp_all
def tupOf : D → D → Bool
  | .tuple xs, .int m => decide ((xs.length : Int) = m)
  | _, _ => false
theorem tu_n (m : Int) : tupOf .none (.int m) = false := rfl
theorem tu_b (b : Bool) (m : Int) : tupOf (.bool b) (.int m) = false := rfl
theorem tu_i (i : Int) (m : Int) : tupOf (.int i) (.int m) = false := rfl
theorem tu_s (s : Str) (m : Int) : tupOf (.str s) (.int m) = false := rfl
theorem tu_l (xs : List D) (m : Int) : tupOf (.list xs) (.int m) = false := rfl
theorem tu_t (xs : List D) (m : Int) : tupOf (.tuple xs) (.int m) = decide ((xs.length : Int) = m) := rfl
theorem tu_d (k : List (D × D)) (m : Int) : tupOf (.dict k) (.int m) = false := rfl
def sp_is_tuple_of (ca : Str → Addr) : SpD := F2 (fun x m => shp x ∧ isI m = true) (fun x m => .ok (.bool (tupOf x m)))
theorem mo_is_tuple_of {ca : Str → Addr} : SpMono (sp_is_tuple_of ca) := F2.mo
theorem sc_is_tuple_of : FnScope ["value", "many"] ["value", "many"] (defScope s_is_tuple_of) := ⟨rfl, rfl, rfl, by decide +kernel, rfl, by decide +kernel, by decide +kernel⟩
theorem ok_is_tuple_of {w : World} {K : PySem.W.Frag} {mg : Str → Option Value} {base : Heap} {ca : Str → Addr} (T : Txt K mg ca) : DOk prog w K mg base 1 "is_tuple_of" ["value", "many"] (sp_is_tuple_of ca) := by
  refine dok T.a_is_tuple_of sc_is_tuple_of F2.len fun f cdv A outer s S F H E hr => ⟨_, (pxs_cons (pxs_ret (px_and (px_isi (by decide) rfl T.b_isinstance rfl T.b_tuple rfl (px_var 0 (pv 0))) (px_one (px_cmp (od_eq (Room.eqU hr)) (px_callB cd_len rfl T.b_len rfl (pxa_cons (px_var 0 (pv 0)) pxa_nil)) (px_var 1 (pv 1)) (nomark _))))) pxs_nil), ?_⟩
  rintro ds n Q ⟨x, y, rfl, hx, q⟩
  dsimp only at hx q
  cases y <;> cases x <;> simp [dVar, dC, dOp, dTest, dChain, dAnd, dOr, dNot, dAndV, dOrV, dNotV, dIf, dNil, dCons, dTup, dLst, dCallL, dRaiseL, dErr, dThunk, dNeg, dNoPart, dPart, dSl, dCB, dIsi, dNext, dSeq, dBreak, dCont, dIfS, dRet, dRetN, dDrop, dSet, dList, dLst', dSetO, dApp, dSetIx, dAsg, dPar, gNm, gNl, gCn, gTp, dSeqOf, dRange1, dRange2, dEnum, dZip, dFor, dForL, dYes, retD, startD, outD, F1_at, F2_at, F3_at, ex2, ex3, sizeLine_eq, rAddD, rMulD, rCmpD, rEqD', rIsD, rInD', rIxD, rLenD, rI0, rDivD, rModD, rPowD, rSubD, ty_n, ty_b, ty_i, ty_s, ty_l, ty_t, ty_d, it_n, it_b, it_i, it_s, it_l, it_t, it_d, fl_n, fl_b, fl_i, fl_s, nn_n, nn_b, nn_i, nn_s, nn_l, nn_t, ln_l, ln_t, ix0, ix1, ix2, ixl1, ixl2, ixl3, ii_n, ii_b, ii_i, ii_s, ii_l, ii_t, ii_d, ev_ii, ev_ss, ev_nn, ev_bb, ev_tt, ev_ll, ev_tn, ev_nt, ev_in, ev_ni, ev_it, ev_ti, ev_st, ev_ts, ev_si, ev_is, ea_nn, ea_nc, ea_cn, ea_cc, st_0_0, st_0_1, st_0_2, st_0_3, st_0_4, st_1_0, st_1_1, st_1_2, st_1_3, st_1_4, st_2_0, st_2_1, st_2_2, st_2_3, st_2_4, st_3_0, st_3_1, st_3_2, st_3_3, st_3_4, st_4_0, st_4_1, st_4_2, st_4_3, st_4_4, so_0, so_1, so_2, so_3, so_4, shp, PyData.canLay0, PyData.canLayAll0, PyData.depth, PyData.depthAll, tu_t, tu_n, tu_b, tu_i, tu_s, tu_l, tu_d] at hx q ⊢ <;> (try simp_all)
def isWay (x : D) : Bool := match x with
  | .tuple (.str s :: r) => if s == PySem.Str.ofString "left" then (match r with | [i] => within i (.int 2) (.int 1000) | _ => false) else (match r with | [] => (PySem.Str.ofString "whether" == s || (PySem.Str.ofString "count" == s || (PySem.Str.ofString "chance" == s || PySem.Str.ofString "cost" == s))) | _ => false)
  | _ => false
def sp_is_way (ca : Str → Addr) : SpD := F1 shp (fun x => .ok (.bool (isWay x)))
theorem mo_is_way {ca : Str → Addr} : SpMono (sp_is_way ca) := F1.mo
theorem sc_is_way : FnScope ["value"] ["value"] (defScope s_is_way) := ⟨rfl, rfl, rfl, by decide +kernel, rfl, by decide +kernel, by decide +kernel⟩
theorem ok_is_way {w : World} {K : PySem.W.Frag} {mg : Str → Option Value} {base : Heap} {ca : Str → Addr} (T : Txt K mg ca) (h_is_within : DOk prog w K mg base 2 "is_within" ["value", "least", "most"] (sp_is_within ca)) : DOk prog w K mg base 3 "is_way" ["value"] (sp_is_way ca) := by
  refine dok T.a_is_way sc_is_way F1.len fun f cdv A outer s S F H E hr => ⟨_, (pxs_cons (pxs_if (PXW.pt (pxw_or (pxt_not (pxt_val (px_isi (by decide) rfl T.b_isinstance rfl T.b_tuple rfl (px_var 0 (pv 0))))) (pxw_or (pxt_cmp (od_eq (Room.eqU hr)) (px_var 0 (pv 0)) (px_tup pxa_nil) (nomark _)) (pxw_or1 (pxt_not (pxt_val (px_isi (by decide) rfl T.b_isinstance rfl T.b_str rfl (px_ix id_ix (px_var 0 (pv 0)) (px_c pe_int fun _ _ => .int _) (fun _ _ => rfl))))))))) (pxs_cons (pxs_ret (px_c pe_bl fun _ _ => .bl _)) pxs_nil) pxs_nil) (pxs_cons (pxs_if (pxt_cmp (od_eq (Room.eqU hr)) (px_ix id_ix (px_var 0 (pv 0)) (px_c pe_int fun _ _ => .int _) (fun _ _ => rfl)) (px_glob T.c_LEFT) (nomark _)) (pxs_cons (pxs_ret (px_and (px_cmp (od_eq (Room.eqU hr)) (px_callB cd_len rfl T.b_len rfl (pxa_cons (px_var 0 (pv 0)) pxa_nil)) (px_c pe_int fun _ _ => .int _) (nomark _)) (px_one (px_callL lets_cx h_is_within mo_is_within (hr.mono (by decide)) (pxa_cons (px_ix id_ix (px_var 0 (pv 0)) (px_c pe_int fun _ _ => .int _) (fun _ _ => rfl)) (pxa_cons (px_c pe_int fun _ _ => .int _) (pxa_cons (px_glob T.c_MOST_LEFT) pxa_nil))))))) pxs_nil) pxs_nil) (pxs_cons (pxs_ret (px_and (px_cmp (od_eq (Room.eqU hr)) (px_callB cd_len rfl T.b_len rfl (pxa_cons (px_var 0 (pv 0)) pxa_nil)) (px_c pe_int fun _ _ => .int _) (nomark _)) (px_one (px_cmp od_in (px_ix id_ix (px_var 0 (pv 0)) (px_c pe_int fun _ _ => .int _) (fun _ _ => rfl)) (px_glob T.c_PLAIN) (by with_unfolding_all rfl))))) pxs_nil))), ?_⟩
  rintro ds n Q ⟨x, rfl, hx, q⟩
  dsimp only at hx q
  cases x with
  | tuple xs =>
    rcases xs with _ | ⟨a, r⟩
    · simp [dVar, dC, dOp, dTest, dChain, dAnd, dOr, dNot, dAndV, dOrV, dNotV, dIf, dNil, dCons, dTup, dLst, dCallL, dRaiseL, dErr, dThunk, dNeg, dNoPart, dPart, dSl, dCB, dIsi, dNext, dSeq, dBreak, dCont, dIfS, dRet, dRetN, dDrop, dSet, dList, dLst', dSetO, dApp, dSetIx, dAsg, dPar, gNm, gNl, gCn, gTp, dSeqOf, dRange1, dRange2, dEnum, dZip, dFor, dForL, dYes, retD, startD, outD, F1_at, F2_at, F3_at, ex2, ex3, sizeLine_eq, rAddD, rMulD, rCmpD, rEqD', rIsD, rInD', rIxD, rLenD, rI0, rDivD, rModD, rPowD, rSubD, ty_n, ty_b, ty_i, ty_s, ty_l, ty_t, ty_d, it_n, it_b, it_i, it_s, it_l, it_t, it_d, fl_n, fl_b, fl_i, fl_s, nn_n, nn_b, nn_i, nn_s, nn_l, nn_t, ln_l, ln_t, ix0, ix1, ix2, ixl1, ixl2, ixl3, ii_n, ii_b, ii_i, ii_s, ii_l, ii_t, ii_d, ev_ii, ev_ss, ev_nn, ev_bb, ev_tt, ev_ll, ev_tn, ev_nt, ev_in, ev_ni, ev_it, ev_ti, ev_st, ev_ts, ev_si, ev_is, ea_nn, ea_nc, ea_cn, ea_cc, st_0_0, st_0_1, st_0_2, st_0_3, st_0_4, st_1_0, st_1_1, st_1_2, st_1_3, st_1_4, st_2_0, st_2_1, st_2_2, st_2_3, st_2_4, st_3_0, st_3_1, st_3_2, st_3_3, st_3_4, st_4_0, st_4_1, st_4_2, st_4_3, st_4_4, so_0, so_1, so_2, so_3, so_4, shp, PyData.canLay0, PyData.canLayAll0, PyData.depth, PyData.depthAll, isWay] at hx q ⊢
      exact q
    · cases a with
      | str s =>
        by_cases hs : s = PySem.Str.ofString "left"
        · subst hs
          rcases r with _ | ⟨b, _ | ⟨c, r⟩⟩
          · simp [dVar, dC, dOp, dTest, dChain, dAnd, dOr, dNot, dAndV, dOrV, dNotV, dIf, dNil, dCons, dTup, dLst, dCallL, dRaiseL, dErr, dThunk, dNeg, dNoPart, dPart, dSl, dCB, dIsi, dNext, dSeq, dBreak, dCont, dIfS, dRet, dRetN, dDrop, dSet, dList, dLst', dSetO, dApp, dSetIx, dAsg, dPar, gNm, gNl, gCn, gTp, dSeqOf, dRange1, dRange2, dEnum, dZip, dFor, dForL, dYes, retD, startD, outD, F1_at, F2_at, F3_at, ex2, ex3, sizeLine_eq, rAddD, rMulD, rCmpD, rEqD', rIsD, rInD', rIxD, rLenD, rI0, rDivD, rModD, rPowD, rSubD, ty_n, ty_b, ty_i, ty_s, ty_l, ty_t, ty_d, it_n, it_b, it_i, it_s, it_l, it_t, it_d, fl_n, fl_b, fl_i, fl_s, nn_n, nn_b, nn_i, nn_s, nn_l, nn_t, ln_l, ln_t, ix0, ix1, ix2, ixl1, ixl2, ixl3, ii_n, ii_b, ii_i, ii_s, ii_l, ii_t, ii_d, ev_ii, ev_ss, ev_nn, ev_bb, ev_tt, ev_ll, ev_tn, ev_nt, ev_in, ev_ni, ev_it, ev_ti, ev_st, ev_ts, ev_si, ev_is, ea_nn, ea_nc, ea_cn, ea_cc, st_0_0, st_0_1, st_0_2, st_0_3, st_0_4, st_1_0, st_1_1, st_1_2, st_1_3, st_1_4, st_2_0, st_2_1, st_2_2, st_2_3, st_2_4, st_3_0, st_3_1, st_3_2, st_3_3, st_3_4, st_4_0, st_4_1, st_4_2, st_4_3, st_4_4, so_0, so_1, so_2, so_3, so_4, shp, PyData.canLay0, PyData.canLayAll0, PyData.depth, PyData.depthAll, isWay] at hx q ⊢
            exact q
          · have hb : (tyD b).isSome = true := shn_ty (shn_tup.mp (show shn (63 + 1) _ from hx) b (by simp))
            simp [dVar, dC, dOp, dTest, dChain, dAnd, dOr, dNot, dAndV, dOrV, dNotV, dIf, dNil, dCons, dTup, dLst, dCallL, dRaiseL, dErr, dThunk, dNeg, dNoPart, dPart, dSl, dCB, dIsi, dNext, dSeq, dBreak, dCont, dIfS, dRet, dRetN, dDrop, dSet, dList, dLst', dSetO, dApp, dSetIx, dAsg, dPar, gNm, gNl, gCn, gTp, dSeqOf, dRange1, dRange2, dEnum, dZip, dFor, dForL, dYes, retD, startD, outD, F1_at, F2_at, F3_at, ex2, ex3, sizeLine_eq, rAddD, rMulD, rCmpD, rEqD', rIsD, rInD', rIxD, rLenD, rI0, rDivD, rModD, rPowD, rSubD, ty_n, ty_b, ty_i, ty_s, ty_l, ty_t, ty_d, it_n, it_b, it_i, it_s, it_l, it_t, it_d, fl_n, fl_b, fl_i, fl_s, nn_n, nn_b, nn_i, nn_s, nn_l, nn_t, ln_l, ln_t, ix0, ix1, ix2, ixl1, ixl2, ixl3, ii_n, ii_b, ii_i, ii_s, ii_l, ii_t, ii_d, ev_ii, ev_ss, ev_nn, ev_bb, ev_tt, ev_ll, ev_tn, ev_nt, ev_in, ev_ni, ev_it, ev_ti, ev_st, ev_ts, ev_si, ev_is, ea_nn, ea_nc, ea_cn, ea_cc, st_0_0, st_0_1, st_0_2, st_0_3, st_0_4, st_1_0, st_1_1, st_1_2, st_1_3, st_1_4, st_2_0, st_2_1, st_2_2, st_2_3, st_2_4, st_3_0, st_3_1, st_3_2, st_3_3, st_3_4, st_4_0, st_4_1, st_4_2, st_4_3, st_4_4, so_0, so_1, so_2, so_3, so_4, shp, PyData.canLay0, PyData.canLayAll0, PyData.depth, PyData.depthAll, isWay, sp_is_within] at hx q ⊢
            exact ⟨hx, hb, q⟩
          · have h2 : ((r.length : Int) + 1 + 1 + 1 = 2) = False := by simp; omega
            simp [dVar, dC, dOp, dTest, dChain, dAnd, dOr, dNot, dAndV, dOrV, dNotV, dIf, dNil, dCons, dTup, dLst, dCallL, dRaiseL, dErr, dThunk, dNeg, dNoPart, dPart, dSl, dCB, dIsi, dNext, dSeq, dBreak, dCont, dIfS, dRet, dRetN, dDrop, dSet, dList, dLst', dSetO, dApp, dSetIx, dAsg, dPar, gNm, gNl, gCn, gTp, dSeqOf, dRange1, dRange2, dEnum, dZip, dFor, dForL, dYes, retD, startD, outD, F1_at, F2_at, F3_at, ex2, ex3, sizeLine_eq, rAddD, rMulD, rCmpD, rEqD', rIsD, rInD', rIxD, rLenD, rI0, rDivD, rModD, rPowD, rSubD, ty_n, ty_b, ty_i, ty_s, ty_l, ty_t, ty_d, it_n, it_b, it_i, it_s, it_l, it_t, it_d, fl_n, fl_b, fl_i, fl_s, nn_n, nn_b, nn_i, nn_s, nn_l, nn_t, ln_l, ln_t, ix0, ix1, ix2, ixl1, ixl2, ixl3, ii_n, ii_b, ii_i, ii_s, ii_l, ii_t, ii_d, ev_ii, ev_ss, ev_nn, ev_bb, ev_tt, ev_ll, ev_tn, ev_nt, ev_in, ev_ni, ev_it, ev_ti, ev_st, ev_ts, ev_si, ev_is, ea_nn, ea_nc, ea_cn, ea_cc, st_0_0, st_0_1, st_0_2, st_0_3, st_0_4, st_1_0, st_1_1, st_1_2, st_1_3, st_1_4, st_2_0, st_2_1, st_2_2, st_2_3, st_2_4, st_3_0, st_3_1, st_3_2, st_3_3, st_3_4, st_4_0, st_4_1, st_4_2, st_4_3, st_4_4, so_0, so_1, so_2, so_3, so_4, shp, PyData.canLay0, PyData.canLayAll0, PyData.depth, PyData.depthAll, isWay, h2] at hx q ⊢
            exact ⟨hx, q⟩
        · rcases r with _ | ⟨b, r⟩
          · simp [dVar, dC, dOp, dTest, dChain, dAnd, dOr, dNot, dAndV, dOrV, dNotV, dIf, dNil, dCons, dTup, dLst, dCallL, dRaiseL, dErr, dThunk, dNeg, dNoPart, dPart, dSl, dCB, dIsi, dNext, dSeq, dBreak, dCont, dIfS, dRet, dRetN, dDrop, dSet, dList, dLst', dSetO, dApp, dSetIx, dAsg, dPar, gNm, gNl, gCn, gTp, dSeqOf, dRange1, dRange2, dEnum, dZip, dFor, dForL, dYes, retD, startD, outD, F1_at, F2_at, F3_at, ex2, ex3, sizeLine_eq, rAddD, rMulD, rCmpD, rEqD', rIsD, rInD', rIxD, rLenD, rI0, rDivD, rModD, rPowD, rSubD, ty_n, ty_b, ty_i, ty_s, ty_l, ty_t, ty_d, it_n, it_b, it_i, it_s, it_l, it_t, it_d, fl_n, fl_b, fl_i, fl_s, nn_n, nn_b, nn_i, nn_s, nn_l, nn_t, ln_l, ln_t, ix0, ix1, ix2, ixl1, ixl2, ixl3, ii_n, ii_b, ii_i, ii_s, ii_l, ii_t, ii_d, ev_ii, ev_ss, ev_nn, ev_bb, ev_tt, ev_ll, ev_tn, ev_nt, ev_in, ev_ni, ev_it, ev_ti, ev_st, ev_ts, ev_si, ev_is, ea_nn, ea_nc, ea_cn, ea_cc, st_0_0, st_0_1, st_0_2, st_0_3, st_0_4, st_1_0, st_1_1, st_1_2, st_1_3, st_1_4, st_2_0, st_2_1, st_2_2, st_2_3, st_2_4, st_3_0, st_3_1, st_3_2, st_3_3, st_3_4, st_4_0, st_4_1, st_4_2, st_4_3, st_4_4, so_0, so_1, so_2, so_3, so_4, shp, PyData.canLay0, PyData.canLayAll0, PyData.depth, PyData.depthAll, isWay, hs] at hx q ⊢
            exact ⟨hx, q⟩
          · have h2 : ((r.length : Int) + 1 + 1 = 1) = False := by simp; omega
            simp [dVar, dC, dOp, dTest, dChain, dAnd, dOr, dNot, dAndV, dOrV, dNotV, dIf, dNil, dCons, dTup, dLst, dCallL, dRaiseL, dErr, dThunk, dNeg, dNoPart, dPart, dSl, dCB, dIsi, dNext, dSeq, dBreak, dCont, dIfS, dRet, dRetN, dDrop, dSet, dList, dLst', dSetO, dApp, dSetIx, dAsg, dPar, gNm, gNl, gCn, gTp, dSeqOf, dRange1, dRange2, dEnum, dZip, dFor, dForL, dYes, retD, startD, outD, F1_at, F2_at, F3_at, ex2, ex3, sizeLine_eq, rAddD, rMulD, rCmpD, rEqD', rIsD, rInD', rIxD, rLenD, rI0, rDivD, rModD, rPowD, rSubD, ty_n, ty_b, ty_i, ty_s, ty_l, ty_t, ty_d, it_n, it_b, it_i, it_s, it_l, it_t, it_d, fl_n, fl_b, fl_i, fl_s, nn_n, nn_b, nn_i, nn_s, nn_l, nn_t, ln_l, ln_t, ix0, ix1, ix2, ixl1, ixl2, ixl3, ii_n, ii_b, ii_i, ii_s, ii_l, ii_t, ii_d, ev_ii, ev_ss, ev_nn, ev_bb, ev_tt, ev_ll, ev_tn, ev_nt, ev_in, ev_ni, ev_it, ev_ti, ev_st, ev_ts, ev_si, ev_is, ea_nn, ea_nc, ea_cn, ea_cc, st_0_0, st_0_1, st_0_2, st_0_3, st_0_4, st_1_0, st_1_1, st_1_2, st_1_3, st_1_4, st_2_0, st_2_1, st_2_2, st_2_3, st_2_4, st_3_0, st_3_1, st_3_2, st_3_3, st_3_4, st_4_0, st_4_1, st_4_2, st_4_3, st_4_4, so_0, so_1, so_2, so_3, so_4, shp, PyData.canLay0, PyData.canLayAll0, PyData.depth, PyData.depthAll, isWay, h2, hs] at hx q ⊢
            exact ⟨hx, hx.1.1, q⟩
      | _ => simp [dVar, dC, dOp, dTest, dChain, dAnd, dOr, dNot, dAndV, dOrV, dNotV, dIf, dNil, dCons, dTup, dLst, dCallL, dRaiseL, dErr, dThunk, dNeg, dNoPart, dPart, dSl, dCB, dIsi, dNext, dSeq, dBreak, dCont, dIfS, dRet, dRetN, dDrop, dSet, dList, dLst', dSetO, dApp, dSetIx, dAsg, dPar, gNm, gNl, gCn, gTp, dSeqOf, dRange1, dRange2, dEnum, dZip, dFor, dForL, dYes, retD, startD, outD, F1_at, F2_at, F3_at, ex2, ex3, sizeLine_eq, rAddD, rMulD, rCmpD, rEqD', rIsD, rInD', rIxD, rLenD, rI0, rDivD, rModD, rPowD, rSubD, ty_n, ty_b, ty_i, ty_s, ty_l, ty_t, ty_d, it_n, it_b, it_i, it_s, it_l, it_t, it_d, fl_n, fl_b, fl_i, fl_s, nn_n, nn_b, nn_i, nn_s, nn_l, nn_t, ln_l, ln_t, ix0, ix1, ix2, ixl1, ixl2, ixl3, ii_n, ii_b, ii_i, ii_s, ii_l, ii_t, ii_d, ev_ii, ev_ss, ev_nn, ev_bb, ev_tt, ev_ll, ev_tn, ev_nt, ev_in, ev_ni, ev_it, ev_ti, ev_st, ev_ts, ev_si, ev_is, ea_nn, ea_nc, ea_cn, ea_cc, st_0_0, st_0_1, st_0_2, st_0_3, st_0_4, st_1_0, st_1_1, st_1_2, st_1_3, st_1_4, st_2_0, st_2_1, st_2_2, st_2_3, st_2_4, st_3_0, st_3_1, st_3_2, st_3_3, st_3_4, st_4_0, st_4_1, st_4_2, st_4_3, st_4_4, so_0, so_1, so_2, so_3, so_4, shp, PyData.canLay0, PyData.canLayAll0, PyData.depth, PyData.depthAll, isWay] at hx q ⊢ <;> simp_all
  | _ => simp [dVar, dC, dOp, dTest, dChain, dAnd, dOr, dNot, dAndV, dOrV, dNotV, dIf, dNil, dCons, dTup, dLst, dCallL, dRaiseL, dErr, dThunk, dNeg, dNoPart, dPart, dSl, dCB, dIsi, dNext, dSeq, dBreak, dCont, dIfS, dRet, dRetN, dDrop, dSet, dList, dLst', dSetO, dApp, dSetIx, dAsg, dPar, gNm, gNl, gCn, gTp, dSeqOf, dRange1, dRange2, dEnum, dZip, dFor, dForL, dYes, retD, startD, outD, F1_at, F2_at, F3_at, ex2, ex3, sizeLine_eq, rAddD, rMulD, rCmpD, rEqD', rIsD, rInD', rIxD, rLenD, rI0, rDivD, rModD, rPowD, rSubD, ty_n, ty_b, ty_i, ty_s, ty_l, ty_t, ty_d, it_n, it_b, it_i, it_s, it_l, it_t, it_d, fl_n, fl_b, fl_i, fl_s, nn_n, nn_b, nn_i, nn_s, nn_l, nn_t, ln_l, ln_t, ix0, ix1, ix2, ixl1, ixl2, ixl3, ii_n, ii_b, ii_i, ii_s, ii_l, ii_t, ii_d, ev_ii, ev_ss, ev_nn, ev_bb, ev_tt, ev_ll, ev_tn, ev_nt, ev_in, ev_ni, ev_it, ev_ti, ev_st, ev_ts, ev_si, ev_is, ea_nn, ea_nc, ea_cn, ea_cc, st_0_0, st_0_1, st_0_2, st_0_3, st_0_4, st_1_0, st_1_1, st_1_2, st_1_3, st_1_4, st_2_0, st_2_1, st_2_2, st_2_3, st_2_4, st_3_0, st_3_1, st_3_2, st_3_3, st_3_4, st_4_0, st_4_1, st_4_2, st_4_3, st_4_4, so_0, so_1, so_2, so_3, so_4, shp, PyData.canLay0, PyData.canLayAll0, PyData.depth, PyData.depthAll, isWay] at hx q ⊢ <;> simp_all
def sp_need_way (ca : Str → Addr) : SpD := F1 shp (fun x => if isWay x = true then .ok x else .error (ca "BadWay", some ("way", x)))
theorem mo_need_way {ca : Str → Addr} : SpMono (sp_need_way ca) := F1.mo
theorem sc_need_way : FnScope ["way"] ["way"] (defScope s_need_way) := ⟨rfl, rfl, rfl, by decide +kernel, rfl, by decide +kernel, by decide +kernel⟩
theorem ok_need_way {w : World} {K : PySem.W.Frag} {mg : Str → Option Value} {base : Heap} {ca : Str → Addr} (T : Txt K mg ca) (h_is_way : DOk prog w K mg base 3 "is_way" ["value"] (sp_is_way ca)) : DOk prog w K mg base 4 "need_way" ["way"] (sp_need_way ca) := by
  refine dok T.a_need_way sc_need_way F1.len fun f cdv A outer s S F H E hr => ⟨_, (pxs_cons (pxs_if (pxt_not (pxt_val (px_callL lets_cx h_is_way mo_is_way (hr.mono (by decide)) (pxa_cons (px_var 0 (pv 0)) pxa_nil)))) (pxs_cons (pxs_raiseL lets_cx rfl T.b_BadWay hr (px_var 0 (pv 0))) pxs_nil) pxs_nil) (pxs_cons (pxs_ret (px_var 0 (pv 0))) pxs_nil)), ?_⟩
  rintro ds n Q ⟨x, rfl, hx, q⟩
  dsimp only at hx q
  by_cases h : isWay x = true
  · simp [dVar, dC, dOp, dTest, dChain, dAnd, dOr, dNot, dAndV, dOrV, dNotV, dIf, dNil, dCons, dTup, dLst, dCallL, dRaiseL, dErr, dThunk, dNeg, dNoPart, dPart, dSl, dCB, dIsi, dNext, dSeq, dBreak, dCont, dIfS, dRet, dRetN, dDrop, dSet, dList, dLst', dSetO, dApp, dSetIx, dAsg, dPar, gNm, gNl, gCn, gTp, dSeqOf, dRange1, dRange2, dEnum, dZip, dFor, dForL, dYes, retD, startD, outD, F1_at, F2_at, F3_at, ex2, ex3, sizeLine_eq, rAddD, rMulD, rCmpD, rEqD', rIsD, rInD', rIxD, rLenD, rI0, rDivD, rModD, rPowD, rSubD, ty_n, ty_b, ty_i, ty_s, ty_l, ty_t, ty_d, it_n, it_b, it_i, it_s, it_l, it_t, it_d, fl_n, fl_b, fl_i, fl_s, nn_n, nn_b, nn_i, nn_s, nn_l, nn_t, ln_l, ln_t, ix0, ix1, ix2, ixl1, ixl2, ixl3, ii_n, ii_b, ii_i, ii_s, ii_l, ii_t, ii_d, ev_ii, ev_ss, ev_nn, ev_bb, ev_tt, ev_ll, ev_tn, ev_nt, ev_in, ev_ni, ev_it, ev_ti, ev_st, ev_ts, ev_si, ev_is, ea_nn, ea_nc, ea_cn, ea_cc, st_0_0, st_0_1, st_0_2, st_0_3, st_0_4, st_1_0, st_1_1, st_1_2, st_1_3, st_1_4, st_2_0, st_2_1, st_2_2, st_2_3, st_2_4, st_3_0, st_3_1, st_3_2, st_3_3, st_3_4, st_4_0, st_4_1, st_4_2, st_4_3, st_4_4, so_0, so_1, so_2, so_3, so_4, sp_is_way, h] at hx q ⊢
    exact ⟨hx, q⟩
  · simp [dVar, dC, dOp, dTest, dChain, dAnd, dOr, dNot, dAndV, dOrV, dNotV, dIf, dNil, dCons, dTup, dLst, dCallL, dRaiseL, dErr, dThunk, dNeg, dNoPart, dPart, dSl, dCB, dIsi, dNext, dSeq, dBreak, dCont, dIfS, dRet, dRetN, dDrop, dSet, dList, dLst', dSetO, dApp, dSetIx, dAsg, dPar, gNm, gNl, gCn, gTp, dSeqOf, dRange1, dRange2, dEnum, dZip, dFor, dForL, dYes, retD, startD, outD, F1_at, F2_at, F3_at, ex2, ex3, sizeLine_eq, rAddD, rMulD, rCmpD, rEqD', rIsD, rInD', rIxD, rLenD, rI0, rDivD, rModD, rPowD, rSubD, ty_n, ty_b, ty_i, ty_s, ty_l, ty_t, ty_d, it_n, it_b, it_i, it_s, it_l, it_t, it_d, fl_n, fl_b, fl_i, fl_s, nn_n, nn_b, nn_i, nn_s, nn_l, nn_t, ln_l, ln_t, ix0, ix1, ix2, ixl1, ixl2, ixl3, ii_n, ii_b, ii_i, ii_s, ii_l, ii_t, ii_d, ev_ii, ev_ss, ev_nn, ev_bb, ev_tt, ev_ll, ev_tn, ev_nt, ev_in, ev_ni, ev_it, ev_ti, ev_st, ev_ts, ev_si, ev_is, ea_nn, ea_nc, ea_cn, ea_cc, st_0_0, st_0_1, st_0_2, st_0_3, st_0_4, st_1_0, st_1_1, st_1_2, st_1_3, st_1_4, st_2_0, st_2_1, st_2_2, st_2_3, st_2_4, st_3_0, st_3_1, st_3_2, st_3_3, st_3_4, st_4_0, st_4_1, st_4_2, st_4_3, st_4_4, so_0, so_1, so_2, so_3, so_4, sp_is_way, h] at hx q ⊢
    exact ⟨hx, q⟩
def sp_fraction_of (ca : Str → Addr) : SpD := GS (fun a : Int × Int => [.int a.1, .int a.2]) (fun a => 0 < a.2 ∧ a.2.natAbs < 2 ^ 8000) (fun a => .ok (low a.1 a.2))
theorem mo_fraction_of {ca : Str → Addr} : SpMono (sp_fraction_of ca) := GS.mo
theorem sc_fraction_of : FnScope ["over", "under", "most"] ["over", "under"] (defScope s_fraction_of) := ⟨rfl, rfl, rfl, by decide +kernel, rfl, by decide +kernel, by decide +kernel⟩
theorem ok_fraction_of {w : World} {K : PySem.W.Frag} {mg : Str → Option Value} {base : Heap} {ca : Str → Addr} (T : Txt K mg ca) : DOk prog w K mg base 1 "fraction_of" ["over", "under"] (sp_fraction_of ca) := by
  refine dok T.a_fraction_of sc_fraction_of (GS.len fun _ => rfl) fun f cdv A outer s S F H E hr => ⟨_, (pxs_cons (pxs_set 2 sc_fraction_of.nd rfl (.inl rfl) (px_if (pxt_cmp od_gt (px_var 1 (pv 1)) (px_c pe_int fun _ _ => .int _) (nomark _)) (px_callF cd_gcd rfl T.i_gcd (pxa_cons (px_var 0 (pv 0)) (pxa_cons (px_var 1 (pv 1)) pxa_nil))) (px_neg (px_callF cd_gcd rfl T.i_gcd (pxa_cons (px_var 0 (pv 0)) (pxa_cons (px_var 1 (pv 1)) pxa_nil)))))) (pxs_cons (pxs_ret (px_tup (pxa_cons (px_op od_div (px_var 0 (pv 0)) (px_var 2 (pv 2))) (pxa_cons (px_op od_div (px_var 1 (pv 1)) (px_var 2 (pv 2))) pxa_nil)))) pxs_nil)), ?_⟩
  rintro ds n Q ⟨⟨p, r⟩, rfl, ⟨h1, h2⟩, q⟩
  dsimp only at h1 h2 q ⊢
  have g := gg_pos (p := p) h1
  have b := gg_bits (p := p) h1 h2
  simp [dVar, dC, dOp, dTest, dChain, dAnd, dOr, dNot, dAndV, dOrV, dNotV, dIf, dNil, dCons, dTup, dLst, dCallL, dRaiseL, dErr, dThunk, dNeg, dNoPart, dPart, dSl, dCB, dIsi, dNext, dSeq, dBreak, dCont, dIfS, dRet, dRetN, dDrop, dSet, dList, dLst', dSetO, dApp, dSetIx, dAsg, dPar, gNm, gNl, gCn, gTp, dSeqOf, dRange1, dRange2, dEnum, dZip, dFor, dForL, dYes, retD, startD, outD, F1_at, F2_at, F3_at, ex2, ex3, sizeLine_eq, rAddD, rMulD, rCmpD, rEqD', rIsD, rInD', rIxD, rLenD, rI0, rDivD, rModD, rPowD, rSubD, ty_n, ty_b, ty_i, ty_s, ty_l, ty_t, ty_d, it_n, it_b, it_i, it_s, it_l, it_t, it_d, fl_n, fl_b, fl_i, fl_s, nn_n, nn_b, nn_i, nn_s, nn_l, nn_t, ln_l, ln_t, ix0, ix1, ix2, ixl1, ixl2, ixl3, ii_n, ii_b, ii_i, ii_s, ii_l, ii_t, ii_d, ev_ii, ev_ss, ev_nn, ev_bb, ev_tt, ev_ll, ev_tn, ev_nt, ev_in, ev_ni, ev_it, ev_ti, ev_st, ev_ts, ev_si, ev_is, ea_nn, ea_nc, ea_cn, ea_cc, st_0_0, st_0_1, st_0_2, st_0_3, st_0_4, st_1_0, st_1_1, st_1_2, st_1_3, st_1_4, st_2_0, st_2_1, st_2_2, st_2_3, st_2_4, st_3_0, st_3_1, st_3_2, st_3_3, st_3_4, st_4_0, st_4_1, st_4_2, st_4_3, st_4_4, so_0, so_1, so_2, so_3, so_4, h1] at q ⊢
  refine ⟨⟨?_, ?_⟩, q⟩
  · exact .inr (by omega)
  · have := log_lt b (by decide)
    exact Nat.lt_trans this (by decide)
def isFr (x : D) : Bool := match x with
  | .tuple [.int p, .int q] => decide (0 < q) && decide (gg p q = 1)
  | _ => false
theorem isFr_a {a b : D} (h : isI a = false) : isFr (.tuple [a, b]) = false := by
  cases a <;> first | rfl | (simp [isI] at h)
theorem isFr_b {a b : D} (h : isI b = false) : isFr (.tuple [a, b]) = false := by
  cases a <;> cases b <;> first | rfl | (simp [isI] at h)
def sp_is_fraction (ca : Str → Addr) : SpD := F1 shp (fun x => .ok (.bool (isFr x)))
theorem mo_is_fraction {ca : Str → Addr} : SpMono (sp_is_fraction ca) := F1.mo
theorem sc_is_fraction : FnScope ["value"] ["value"] (defScope s_is_fraction) := ⟨rfl, rfl, rfl, by decide +kernel, rfl, by decide +kernel, by decide +kernel⟩
theorem ok_is_fraction {w : World} {K : PySem.W.Frag} {mg : Str → Option Value} {base : Heap} {ca : Str → Addr} (T : Txt K mg ca) (h_is_integer : DOk prog w K mg base 1 "is_integer" ["value"] (sp_is_integer ca)) (h_is_tuple_of : DOk prog w K mg base 1 "is_tuple_of" ["value", "many"] (sp_is_tuple_of ca)) : DOk prog w K mg base 2 "is_fraction" ["value"] (sp_is_fraction ca) := by
  refine dok T.a_is_fraction sc_is_fraction F1.len fun f cdv A outer s S F H E hr => ⟨_, (pxs_cons (pxs_if (PXW.pt (pxw_or (pxt_not (pxt_val (px_callL lets_cx h_is_tuple_of mo_is_tuple_of (hr.mono (by decide)) (pxa_cons (px_var 0 (pv 0)) (pxa_cons (px_c pe_int fun _ _ => .int _) pxa_nil))))) (pxw_or (pxt_not (pxt_val (px_callL lets_cx h_is_integer mo_is_integer (hr.mono (by decide)) (pxa_cons (px_ix id_ix (px_var 0 (pv 0)) (px_c pe_int fun _ _ => .int _) (fun _ _ => rfl)) pxa_nil)))) (pxw_or1 (pxt_not (pxt_val (px_callL lets_cx h_is_integer mo_is_integer (hr.mono (by decide)) (pxa_cons (px_ix id_ix (px_var 0 (pv 0)) (px_c pe_int fun _ _ => .int _) (fun _ _ => rfl)) pxa_nil)))))))) (pxs_cons (pxs_ret (px_c pe_bl fun _ _ => .bl _)) pxs_nil) pxs_nil) (pxs_cons (pxs_ret (px_and (px_cmp od_gt (px_ix id_ix (px_var 0 (pv 0)) (px_c pe_int fun _ _ => .int _) (fun _ _ => rfl)) (px_c pe_int fun _ _ => .int _) (nomark _)) (px_one (px_cmp (od_eq (Room.eqU hr)) (px_callF cd_gcd rfl T.i_gcd (pxa_cons (px_ix id_ix (px_var 0 (pv 0)) (px_c pe_int fun _ _ => .int _) (fun _ _ => rfl)) (pxa_cons (px_ix id_ix (px_var 0 (pv 0)) (px_c pe_int fun _ _ => .int _) (fun _ _ => rfl)) pxa_nil))) (px_c pe_int fun _ _ => .int _) (nomark _))))) pxs_nil)), ?_⟩
  rintro ds n Q ⟨x, rfl, hx, q⟩
  dsimp only at hx q
  cases x with
  | tuple xs =>
    rcases xs with _ | ⟨a, _ | ⟨b, _ | ⟨c, r⟩⟩⟩
    · simp [dVar, dC, dOp, dTest, dChain, dAnd, dOr, dNot, dAndV, dOrV, dNotV, dIf, dNil, dCons, dTup, dLst, dCallL, dRaiseL, dErr, dThunk, dNeg, dNoPart, dPart, dSl, dCB, dIsi, dNext, dSeq, dBreak, dCont, dIfS, dRet, dRetN, dDrop, dSet, dList, dLst', dSetO, dApp, dSetIx, dAsg, dPar, gNm, gNl, gCn, gTp, dSeqOf, dRange1, dRange2, dEnum, dZip, dFor, dForL, dYes, retD, startD, outD, F1_at, F2_at, F3_at, ex2, ex3, sizeLine_eq, rAddD, rMulD, rCmpD, rEqD', rIsD, rInD', rIxD, rLenD, rI0, rDivD, rModD, rPowD, rSubD, ty_n, ty_b, ty_i, ty_s, ty_l, ty_t, ty_d, it_n, it_b, it_i, it_s, it_l, it_t, it_d, fl_n, fl_b, fl_i, fl_s, nn_n, nn_b, nn_i, nn_s, nn_l, nn_t, ln_l, ln_t, ix0, ix1, ix2, ixl1, ixl2, ixl3, ii_n, ii_b, ii_i, ii_s, ii_l, ii_t, ii_d, ev_ii, ev_ss, ev_nn, ev_bb, ev_tt, ev_ll, ev_tn, ev_nt, ev_in, ev_ni, ev_it, ev_ti, ev_st, ev_ts, ev_si, ev_is, ea_nn, ea_nc, ea_cn, ea_cc, st_0_0, st_0_1, st_0_2, st_0_3, st_0_4, st_1_0, st_1_1, st_1_2, st_1_3, st_1_4, st_2_0, st_2_1, st_2_2, st_2_3, st_2_4, st_3_0, st_3_1, st_3_2, st_3_3, st_3_4, st_4_0, st_4_1, st_4_2, st_4_3, st_4_4, so_0, so_1, so_2, so_3, so_4, shp, PyData.canLay0, PyData.canLayAll0, PyData.depth, PyData.depthAll, isFr, sp_is_tuple_of, tu_t, tu_n, tu_b, tu_i, tu_s, tu_l, tu_d] at hx q ⊢
      exact q
    · simp [dVar, dC, dOp, dTest, dChain, dAnd, dOr, dNot, dAndV, dOrV, dNotV, dIf, dNil, dCons, dTup, dLst, dCallL, dRaiseL, dErr, dThunk, dNeg, dNoPart, dPart, dSl, dCB, dIsi, dNext, dSeq, dBreak, dCont, dIfS, dRet, dRetN, dDrop, dSet, dList, dLst', dSetO, dApp, dSetIx, dAsg, dPar, gNm, gNl, gCn, gTp, dSeqOf, dRange1, dRange2, dEnum, dZip, dFor, dForL, dYes, retD, startD, outD, F1_at, F2_at, F3_at, ex2, ex3, sizeLine_eq, rAddD, rMulD, rCmpD, rEqD', rIsD, rInD', rIxD, rLenD, rI0, rDivD, rModD, rPowD, rSubD, ty_n, ty_b, ty_i, ty_s, ty_l, ty_t, ty_d, it_n, it_b, it_i, it_s, it_l, it_t, it_d, fl_n, fl_b, fl_i, fl_s, nn_n, nn_b, nn_i, nn_s, nn_l, nn_t, ln_l, ln_t, ix0, ix1, ix2, ixl1, ixl2, ixl3, ii_n, ii_b, ii_i, ii_s, ii_l, ii_t, ii_d, ev_ii, ev_ss, ev_nn, ev_bb, ev_tt, ev_ll, ev_tn, ev_nt, ev_in, ev_ni, ev_it, ev_ti, ev_st, ev_ts, ev_si, ev_is, ea_nn, ea_nc, ea_cn, ea_cc, st_0_0, st_0_1, st_0_2, st_0_3, st_0_4, st_1_0, st_1_1, st_1_2, st_1_3, st_1_4, st_2_0, st_2_1, st_2_2, st_2_3, st_2_4, st_3_0, st_3_1, st_3_2, st_3_3, st_3_4, st_4_0, st_4_1, st_4_2, st_4_3, st_4_4, so_0, so_1, so_2, so_3, so_4, shp, PyData.canLay0, PyData.canLayAll0, PyData.depth, PyData.depthAll, isFr, sp_is_tuple_of, tu_t, tu_n, tu_b, tu_i, tu_s, tu_l, tu_d] at hx q ⊢
      exact ⟨hx, q⟩
    · have ha : (tyD a).isSome = true := shn_ty (shn_tup.mp (show shn (63 + 1) _ from hx) a (by simp))
      have hb : (tyD b).isSome = true := shn_ty (shn_tup.mp (show shn (63 + 1) _ from hx) b (by simp))
      by_cases ia : isI a = true
      · by_cases ib : isI b = true
        · cases a <;> simp [ii_n, ii_b, ii_i, ii_s, ii_l, ii_t, ii_d] at ia
          cases b <;> simp [ii_n, ii_b, ii_i, ii_s, ii_l, ii_t, ii_d] at ib
          rename_i i j
          by_cases h : 0 < j
          · simp [dVar, dC, dOp, dTest, dChain, dAnd, dOr, dNot, dAndV, dOrV, dNotV, dIf, dNil, dCons, dTup, dLst, dCallL, dRaiseL, dErr, dThunk, dNeg, dNoPart, dPart, dSl, dCB, dIsi, dNext, dSeq, dBreak, dCont, dIfS, dRet, dRetN, dDrop, dSet, dList, dLst', dSetO, dApp, dSetIx, dAsg, dPar, gNm, gNl, gCn, gTp, dSeqOf, dRange1, dRange2, dEnum, dZip, dFor, dForL, dYes, retD, startD, outD, F1_at, F2_at, F3_at, ex2, ex3, sizeLine_eq, rAddD, rMulD, rCmpD, rEqD', rIsD, rInD', rIxD, rLenD, rI0, rDivD, rModD, rPowD, rSubD, ty_n, ty_b, ty_i, ty_s, ty_l, ty_t, ty_d, it_n, it_b, it_i, it_s, it_l, it_t, it_d, fl_n, fl_b, fl_i, fl_s, nn_n, nn_b, nn_i, nn_s, nn_l, nn_t, ln_l, ln_t, ix0, ix1, ix2, ixl1, ixl2, ixl3, ii_n, ii_b, ii_i, ii_s, ii_l, ii_t, ii_d, ev_ii, ev_ss, ev_nn, ev_bb, ev_tt, ev_ll, ev_tn, ev_nt, ev_in, ev_ni, ev_it, ev_ti, ev_st, ev_ts, ev_si, ev_is, ea_nn, ea_nc, ea_cn, ea_cc, st_0_0, st_0_1, st_0_2, st_0_3, st_0_4, st_1_0, st_1_1, st_1_2, st_1_3, st_1_4, st_2_0, st_2_1, st_2_2, st_2_3, st_2_4, st_3_0, st_3_1, st_3_2, st_3_3, st_3_4, st_4_0, st_4_1, st_4_2, st_4_3, st_4_4, so_0, so_1, so_2, so_3, so_4, shp, PyData.canLay0, PyData.canLayAll0, PyData.depth, PyData.depthAll, isFr, sp_is_tuple_of, tu_t, tu_n, tu_b, tu_i, tu_s, tu_l, tu_d, sp_is_integer, h, gg] at hx q ⊢
            exact q
          · simp [dVar, dC, dOp, dTest, dChain, dAnd, dOr, dNot, dAndV, dOrV, dNotV, dIf, dNil, dCons, dTup, dLst, dCallL, dRaiseL, dErr, dThunk, dNeg, dNoPart, dPart, dSl, dCB, dIsi, dNext, dSeq, dBreak, dCont, dIfS, dRet, dRetN, dDrop, dSet, dList, dLst', dSetO, dApp, dSetIx, dAsg, dPar, gNm, gNl, gCn, gTp, dSeqOf, dRange1, dRange2, dEnum, dZip, dFor, dForL, dYes, retD, startD, outD, F1_at, F2_at, F3_at, ex2, ex3, sizeLine_eq, rAddD, rMulD, rCmpD, rEqD', rIsD, rInD', rIxD, rLenD, rI0, rDivD, rModD, rPowD, rSubD, ty_n, ty_b, ty_i, ty_s, ty_l, ty_t, ty_d, it_n, it_b, it_i, it_s, it_l, it_t, it_d, fl_n, fl_b, fl_i, fl_s, nn_n, nn_b, nn_i, nn_s, nn_l, nn_t, ln_l, ln_t, ix0, ix1, ix2, ixl1, ixl2, ixl3, ii_n, ii_b, ii_i, ii_s, ii_l, ii_t, ii_d, ev_ii, ev_ss, ev_nn, ev_bb, ev_tt, ev_ll, ev_tn, ev_nt, ev_in, ev_ni, ev_it, ev_ti, ev_st, ev_ts, ev_si, ev_is, ea_nn, ea_nc, ea_cn, ea_cc, st_0_0, st_0_1, st_0_2, st_0_3, st_0_4, st_1_0, st_1_1, st_1_2, st_1_3, st_1_4, st_2_0, st_2_1, st_2_2, st_2_3, st_2_4, st_3_0, st_3_1, st_3_2, st_3_3, st_3_4, st_4_0, st_4_1, st_4_2, st_4_3, st_4_4, so_0, so_1, so_2, so_3, so_4, shp, PyData.canLay0, PyData.canLayAll0, PyData.depth, PyData.depthAll, isFr, sp_is_tuple_of, tu_t, tu_n, tu_b, tu_i, tu_s, tu_l, tu_d, sp_is_integer, h] at hx q ⊢
            exact q
        · rw [isFr_b (by simpa using ib)] at q
          simp [dVar, dC, dOp, dTest, dChain, dAnd, dOr, dNot, dAndV, dOrV, dNotV, dIf, dNil, dCons, dTup, dLst, dCallL, dRaiseL, dErr, dThunk, dNeg, dNoPart, dPart, dSl, dCB, dIsi, dNext, dSeq, dBreak, dCont, dIfS, dRet, dRetN, dDrop, dSet, dList, dLst', dSetO, dApp, dSetIx, dAsg, dPar, gNm, gNl, gCn, gTp, dSeqOf, dRange1, dRange2, dEnum, dZip, dFor, dForL, dYes, retD, startD, outD, F1_at, F2_at, F3_at, ex2, ex3, sizeLine_eq, rAddD, rMulD, rCmpD, rEqD', rIsD, rInD', rIxD, rLenD, rI0, rDivD, rModD, rPowD, rSubD, ty_n, ty_b, ty_i, ty_s, ty_l, ty_t, ty_d, it_n, it_b, it_i, it_s, it_l, it_t, it_d, fl_n, fl_b, fl_i, fl_s, nn_n, nn_b, nn_i, nn_s, nn_l, nn_t, ln_l, ln_t, ix0, ix1, ix2, ixl1, ixl2, ixl3, ii_n, ii_b, ii_i, ii_s, ii_l, ii_t, ii_d, ev_ii, ev_ss, ev_nn, ev_bb, ev_tt, ev_ll, ev_tn, ev_nt, ev_in, ev_ni, ev_it, ev_ti, ev_st, ev_ts, ev_si, ev_is, ea_nn, ea_nc, ea_cn, ea_cc, st_0_0, st_0_1, st_0_2, st_0_3, st_0_4, st_1_0, st_1_1, st_1_2, st_1_3, st_1_4, st_2_0, st_2_1, st_2_2, st_2_3, st_2_4, st_3_0, st_3_1, st_3_2, st_3_3, st_3_4, st_4_0, st_4_1, st_4_2, st_4_3, st_4_4, so_0, so_1, so_2, so_3, so_4, shp, PyData.canLay0, PyData.canLayAll0, PyData.depth, PyData.depthAll, sp_is_tuple_of, tu_t, tu_n, tu_b, tu_i, tu_s, tu_l, tu_d, sp_is_integer, ia, ib, ha, hb] at hx q ⊢
          exact ⟨hx, q⟩
      · rw [isFr_a (by simpa using ia)] at q
        simp [dVar, dC, dOp, dTest, dChain, dAnd, dOr, dNot, dAndV, dOrV, dNotV, dIf, dNil, dCons, dTup, dLst, dCallL, dRaiseL, dErr, dThunk, dNeg, dNoPart, dPart, dSl, dCB, dIsi, dNext, dSeq, dBreak, dCont, dIfS, dRet, dRetN, dDrop, dSet, dList, dLst', dSetO, dApp, dSetIx, dAsg, dPar, gNm, gNl, gCn, gTp, dSeqOf, dRange1, dRange2, dEnum, dZip, dFor, dForL, dYes, retD, startD, outD, F1_at, F2_at, F3_at, ex2, ex3, sizeLine_eq, rAddD, rMulD, rCmpD, rEqD', rIsD, rInD', rIxD, rLenD, rI0, rDivD, rModD, rPowD, rSubD, ty_n, ty_b, ty_i, ty_s, ty_l, ty_t, ty_d, it_n, it_b, it_i, it_s, it_l, it_t, it_d, fl_n, fl_b, fl_i, fl_s, nn_n, nn_b, nn_i, nn_s, nn_l, nn_t, ln_l, ln_t, ix0, ix1, ix2, ixl1, ixl2, ixl3, ii_n, ii_b, ii_i, ii_s, ii_l, ii_t, ii_d, ev_ii, ev_ss, ev_nn, ev_bb, ev_tt, ev_ll, ev_tn, ev_nt, ev_in, ev_ni, ev_it, ev_ti, ev_st, ev_ts, ev_si, ev_is, ea_nn, ea_nc, ea_cn, ea_cc, st_0_0, st_0_1, st_0_2, st_0_3, st_0_4, st_1_0, st_1_1, st_1_2, st_1_3, st_1_4, st_2_0, st_2_1, st_2_2, st_2_3, st_2_4, st_3_0, st_3_1, st_3_2, st_3_3, st_3_4, st_4_0, st_4_1, st_4_2, st_4_3, st_4_4, so_0, so_1, so_2, so_3, so_4, shp, PyData.canLay0, PyData.canLayAll0, PyData.depth, PyData.depthAll, sp_is_tuple_of, tu_t, tu_n, tu_b, tu_i, tu_s, tu_l, tu_d, sp_is_integer, ia, ha, hb] at hx q ⊢
        exact ⟨hx, q⟩
    · have h2 : ((r.length : Int) + 1 + 1 + 1 = 2) = False := by simp; omega
      simp [dVar, dC, dOp, dTest, dChain, dAnd, dOr, dNot, dAndV, dOrV, dNotV, dIf, dNil, dCons, dTup, dLst, dCallL, dRaiseL, dErr, dThunk, dNeg, dNoPart, dPart, dSl, dCB, dIsi, dNext, dSeq, dBreak, dCont, dIfS, dRet, dRetN, dDrop, dSet, dList, dLst', dSetO, dApp, dSetIx, dAsg, dPar, gNm, gNl, gCn, gTp, dSeqOf, dRange1, dRange2, dEnum, dZip, dFor, dForL, dYes, retD, startD, outD, F1_at, F2_at, F3_at, ex2, ex3, sizeLine_eq, rAddD, rMulD, rCmpD, rEqD', rIsD, rInD', rIxD, rLenD, rI0, rDivD, rModD, rPowD, rSubD, ty_n, ty_b, ty_i, ty_s, ty_l, ty_t, ty_d, it_n, it_b, it_i, it_s, it_l, it_t, it_d, fl_n, fl_b, fl_i, fl_s, nn_n, nn_b, nn_i, nn_s, nn_l, nn_t, ln_l, ln_t, ix0, ix1, ix2, ixl1, ixl2, ixl3, ii_n, ii_b, ii_i, ii_s, ii_l, ii_t, ii_d, ev_ii, ev_ss, ev_nn, ev_bb, ev_tt, ev_ll, ev_tn, ev_nt, ev_in, ev_ni, ev_it, ev_ti, ev_st, ev_ts, ev_si, ev_is, ea_nn, ea_nc, ea_cn, ea_cc, st_0_0, st_0_1, st_0_2, st_0_3, st_0_4, st_1_0, st_1_1, st_1_2, st_1_3, st_1_4, st_2_0, st_2_1, st_2_2, st_2_3, st_2_4, st_3_0, st_3_1, st_3_2, st_3_3, st_3_4, st_4_0, st_4_1, st_4_2, st_4_3, st_4_4, so_0, so_1, so_2, so_3, so_4, shp, PyData.canLay0, PyData.canLayAll0, PyData.depth, PyData.depthAll, isFr, sp_is_tuple_of, tu_t, tu_n, tu_b, tu_i, tu_s, tu_l, tu_d, h2] at hx q ⊢
      exact ⟨hx, q⟩
  | _ => simp [dVar, dC, dOp, dTest, dChain, dAnd, dOr, dNot, dAndV, dOrV, dNotV, dIf, dNil, dCons, dTup, dLst, dCallL, dRaiseL, dErr, dThunk, dNeg, dNoPart, dPart, dSl, dCB, dIsi, dNext, dSeq, dBreak, dCont, dIfS, dRet, dRetN, dDrop, dSet, dList, dLst', dSetO, dApp, dSetIx, dAsg, dPar, gNm, gNl, gCn, gTp, dSeqOf, dRange1, dRange2, dEnum, dZip, dFor, dForL, dYes, retD, startD, outD, F1_at, F2_at, F3_at, ex2, ex3, sizeLine_eq, rAddD, rMulD, rCmpD, rEqD', rIsD, rInD', rIxD, rLenD, rI0, rDivD, rModD, rPowD, rSubD, ty_n, ty_b, ty_i, ty_s, ty_l, ty_t, ty_d, it_n, it_b, it_i, it_s, it_l, it_t, it_d, fl_n, fl_b, fl_i, fl_s, nn_n, nn_b, nn_i, nn_s, nn_l, nn_t, ln_l, ln_t, ix0, ix1, ix2, ixl1, ixl2, ixl3, ii_n, ii_b, ii_i, ii_s, ii_l, ii_t, ii_d, ev_ii, ev_ss, ev_nn, ev_bb, ev_tt, ev_ll, ev_tn, ev_nt, ev_in, ev_ni, ev_it, ev_ti, ev_st, ev_ts, ev_si, ev_is, ea_nn, ea_nc, ea_cn, ea_cc, st_0_0, st_0_1, st_0_2, st_0_3, st_0_4, st_1_0, st_1_1, st_1_2, st_1_3, st_1_4, st_2_0, st_2_1, st_2_2, st_2_3, st_2_4, st_3_0, st_3_1, st_3_2, st_3_3, st_3_4, st_4_0, st_4_1, st_4_2, st_4_3, st_4_4, so_0, so_1, so_2, so_3, so_4, shp, PyData.canLay0, PyData.canLayAll0, PyData.depth, PyData.depthAll, isFr, sp_is_tuple_of, tu_t, tu_n, tu_b, tu_i, tu_s, tu_l, tu_d] at hx q ⊢ <;> simp_all
theorem isNum_ch {x : D} (h : isFr x = false) : isNum .ch x = false := by
  unfold isNum
  split <;> simp_all [isFr]
theorem isNum_no {W : Way} {x : D} (h : isI x = false) (n : W ≠ .ch) : isNum W x = false := by
  cases x <;> cases W <;> simp_all [isNum, isI]
def sp_is_number_in (ca : Str → Addr) : SpD := GS (fun a : Way × D => [a.1.d, a.2]) (fun a => a.1.ok ∧ shp a.2) (fun a => .ok (.bool (isNum a.1 a.2)))
theorem mo_is_number_in {ca : Str → Addr} : SpMono (sp_is_number_in ca) := GS.mo
theorem sc_is_number_in : FnScope ["way", "value"] ["way", "value"] (defScope s_is_number_in) := ⟨rfl, rfl, rfl, by decide +kernel, rfl, by decide +kernel, by decide +kernel⟩
theorem ok_is_number_in {w : World} {K : PySem.W.Frag} {mg : Str → Option Value} {base : Heap} {ca : Str → Addr} (T : Txt K mg ca) (h_is_fraction : DOk prog w K mg base 2 "is_fraction" ["value"] (sp_is_fraction ca)) (h_is_integer : DOk prog w K mg base 1 "is_integer" ["value"] (sp_is_integer ca)) : DOk prog w K mg base 3 "is_number_in" ["way", "value"] (sp_is_number_in ca) := by
  refine dok T.a_is_number_in sc_is_number_in (GS.len fun _ => rfl) fun f cdv A outer s S F H E hr => ⟨_, (pxs_cons (pxs_if (pxt_cmp (od_eq (Room.eqU hr)) (px_ix id_ix (px_var 0 (pv 0)) (px_c pe_int fun _ _ => .int _) (fun _ _ => rfl)) (px_glob T.c_CHANCE) (nomark _)) (pxs_cons (pxs_ret (px_and (px_callL lets_cx h_is_fraction mo_is_fraction (hr.mono (by decide)) (pxa_cons (px_var 1 (pv 1)) pxa_nil)) (px_one (px_cmp od_gt (px_ix id_ix (px_var 1 (pv 1)) (px_c pe_int fun _ _ => .int _) (fun _ _ => rfl)) (px_c pe_int fun _ _ => .int _) (nomark _))))) pxs_nil) pxs_nil) (pxs_cons (pxs_if (pxt_not (pxt_val (px_callL lets_cx h_is_integer mo_is_integer (hr.mono (by decide)) (pxa_cons (px_var 1 (pv 1)) pxa_nil)))) (pxs_cons (pxs_ret (px_c pe_bl fun _ _ => .bl _)) pxs_nil) pxs_nil) (pxs_cons (pxs_if (pxt_cmp (od_eq (Room.eqU hr)) (px_ix id_ix (px_var 0 (pv 0)) (px_c pe_int fun _ _ => .int _) (fun _ _ => rfl)) (px_glob T.c_LEFT) (nomark _)) (pxs_cons (pxs_ret (px_chain od_lt od_lt (px_c pe_int fun _ _ => .int _) (px_var 1 (pv 1)) (px_ix id_ix (px_var 0 (pv 0)) (px_c pe_int fun _ _ => .int _) (fun _ _ => rfl)))) pxs_nil) pxs_nil) (pxs_cons (pxs_ret (px_if (pxt_cmp (od_eq (Room.eqU hr)) (px_ix id_ix (px_var 0 (pv 0)) (px_c pe_int fun _ _ => .int _) (fun _ _ => rfl)) (px_glob T.c_WHETHER) (nomark _)) (px_cmp (od_eq (Room.eqU hr)) (px_var 1 (pv 1)) (px_c pe_int fun _ _ => .int _) (nomark _)) (px_or (px_cmp (od_eq (Room.eqU hr)) (px_ix id_ix (px_var 0 (pv 0)) (px_c pe_int fun _ _ => .int _) (fun _ _ => rfl)) (px_glob T.c_COST) (nomark _)) (px_one (px_cmp od_gt (px_var 1 (pv 1)) (px_c pe_int fun _ _ => .int _) (nomark _)))))) pxs_nil)))), ?_⟩
  rintro ds n Q ⟨⟨W, x⟩, rfl, ⟨hW, hx⟩, q⟩
  dsimp only at hW hx q ⊢
  have tx := shn_ty hx
  by_cases hc : W = .ch
  · subst hc
    by_cases h : isFr x = true
    · unfold isFr at h
      split at h
      · rename_i p r
        simp only [Bool.and_eq_true, decide_eq_true_eq] at h
        simp [dVar, dC, dOp, dTest, dChain, dAnd, dOr, dNot, dAndV, dOrV, dNotV, dIf, dNil, dCons, dTup, dLst, dCallL, dRaiseL, dErr, dThunk, dNeg, dNoPart, dPart, dSl, dCB, dIsi, dNext, dSeq, dBreak, dCont, dIfS, dRet, dRetN, dDrop, dSet, dList, dLst', dSetO, dApp, dSetIx, dAsg, dPar, gNm, gNl, gCn, gTp, dSeqOf, dRange1, dRange2, dEnum, dZip, dFor, dForL, dYes, retD, startD, outD, F1_at, F2_at, F3_at, ex2, ex3, sizeLine_eq, rAddD, rMulD, rCmpD, rEqD', rIsD, rInD', rIxD, rLenD, rI0, rDivD, rModD, rPowD, rSubD, ty_n, ty_b, ty_i, ty_s, ty_l, ty_t, ty_d, it_n, it_b, it_i, it_s, it_l, it_t, it_d, fl_n, fl_b, fl_i, fl_s, nn_n, nn_b, nn_i, nn_s, nn_l, nn_t, ln_l, ln_t, ix0, ix1, ix2, ixl1, ixl2, ixl3, ii_n, ii_b, ii_i, ii_s, ii_l, ii_t, ii_d, ev_ii, ev_ss, ev_nn, ev_bb, ev_tt, ev_ll, ev_tn, ev_nt, ev_in, ev_ni, ev_it, ev_ti, ev_st, ev_ts, ev_si, ev_is, ea_nn, ea_nc, ea_cn, ea_cc, st_0_0, st_0_1, st_0_2, st_0_3, st_0_4, st_1_0, st_1_1, st_1_2, st_1_3, st_1_4, st_2_0, st_2_1, st_2_2, st_2_3, st_2_4, st_3_0, st_3_1, st_3_2, st_3_3, st_3_4, st_4_0, st_4_1, st_4_2, st_4_3, st_4_4, so_0, so_1, so_2, so_3, so_4, shp, PyData.canLay0, PyData.canLayAll0, PyData.depth, PyData.depthAll, Way.d, sp_is_integer, sp_is_fraction, isNum, isFr, h.1, h.2] at q ⊢
        exact q
      · cases h
    · rw [isNum_ch (by simpa using h)] at q
      simp [dVar, dC, dOp, dTest, dChain, dAnd, dOr, dNot, dAndV, dOrV, dNotV, dIf, dNil, dCons, dTup, dLst, dCallL, dRaiseL, dErr, dThunk, dNeg, dNoPart, dPart, dSl, dCB, dIsi, dNext, dSeq, dBreak, dCont, dIfS, dRet, dRetN, dDrop, dSet, dList, dLst', dSetO, dApp, dSetIx, dAsg, dPar, gNm, gNl, gCn, gTp, dSeqOf, dRange1, dRange2, dEnum, dZip, dFor, dForL, dYes, retD, startD, outD, F1_at, F2_at, F3_at, ex2, ex3, sizeLine_eq, rAddD, rMulD, rCmpD, rEqD', rIsD, rInD', rIxD, rLenD, rI0, rDivD, rModD, rPowD, rSubD, ty_n, ty_b, ty_i, ty_s, ty_l, ty_t, ty_d, it_n, it_b, it_i, it_s, it_l, it_t, it_d, fl_n, fl_b, fl_i, fl_s, nn_n, nn_b, nn_i, nn_s, nn_l, nn_t, ln_l, ln_t, ix0, ix1, ix2, ixl1, ixl2, ixl3, ii_n, ii_b, ii_i, ii_s, ii_l, ii_t, ii_d, ev_ii, ev_ss, ev_nn, ev_bb, ev_tt, ev_ll, ev_tn, ev_nt, ev_in, ev_ni, ev_it, ev_ti, ev_st, ev_ts, ev_si, ev_is, ea_nn, ea_nc, ea_cn, ea_cc, st_0_0, st_0_1, st_0_2, st_0_3, st_0_4, st_1_0, st_1_1, st_1_2, st_1_3, st_1_4, st_2_0, st_2_1, st_2_2, st_2_3, st_2_4, st_3_0, st_3_1, st_3_2, st_3_3, st_3_4, st_4_0, st_4_1, st_4_2, st_4_3, st_4_4, so_0, so_1, so_2, so_3, so_4, Way.d, sp_is_fraction, h] at q ⊢
      refine ⟨?_, ?_⟩
      · simp [dVar, dC, dOp, dTest, dChain, dAnd, dOr, dNot, dAndV, dOrV, dNotV, dIf, dNil, dCons, dTup, dLst, dCallL, dRaiseL, dErr, dThunk, dNeg, dNoPart, dPart, dSl, dCB, dIsi, dNext, dSeq, dBreak, dCont, dIfS, dRet, dRetN, dDrop, dSet, dList, dLst', dSetO, dApp, dSetIx, dAsg, dPar, gNm, gNl, gCn, gTp, dSeqOf, dRange1, dRange2, dEnum, dZip, dFor, dForL, dYes, retD, startD, outD, F1_at, F2_at, F3_at, ex2, ex3, sizeLine_eq, rAddD, rMulD, rCmpD, rEqD', rIsD, rInD', rIxD, rLenD, rI0, rDivD, rModD, rPowD, rSubD, ty_n, ty_b, ty_i, ty_s, ty_l, ty_t, ty_d, it_n, it_b, it_i, it_s, it_l, it_t, it_d, fl_n, fl_b, fl_i, fl_s, nn_n, nn_b, nn_i, nn_s, nn_l, nn_t, ln_l, ln_t, ix0, ix1, ix2, ixl1, ixl2, ixl3, ii_n, ii_b, ii_i, ii_s, ii_l, ii_t, ii_d, ev_ii, ev_ss, ev_nn, ev_bb, ev_tt, ev_ll, ev_tn, ev_nt, ev_in, ev_ni, ev_it, ev_ti, ev_st, ev_ts, ev_si, ev_is, ea_nn, ea_nc, ea_cn, ea_cc, st_0_0, st_0_1, st_0_2, st_0_3, st_0_4, st_1_0, st_1_1, st_1_2, st_1_3, st_1_4, st_2_0, st_2_1, st_2_2, st_2_3, st_2_4, st_3_0, st_3_1, st_3_2, st_3_3, st_3_4, st_4_0, st_4_1, st_4_2, st_4_3, st_4_4, so_0, so_1, so_2, so_3, so_4, shp, PyData.canLay0, PyData.canLayAll0, PyData.depth, PyData.depthAll]
      · exact ⟨hx, q⟩
  · by_cases ix : isI x = true
    · cases x <;> simp [ii_n, ii_b, ii_i, ii_s, ii_l, ii_t, ii_d] at ix
      rename_i k
      cases W with
      | lf m =>
        by_cases h : 0 < k
        · simp [dVar, dC, dOp, dTest, dChain, dAnd, dOr, dNot, dAndV, dOrV, dNotV, dIf, dNil, dCons, dTup, dLst, dCallL, dRaiseL, dErr, dThunk, dNeg, dNoPart, dPart, dSl, dCB, dIsi, dNext, dSeq, dBreak, dCont, dIfS, dRet, dRetN, dDrop, dSet, dList, dLst', dSetO, dApp, dSetIx, dAsg, dPar, gNm, gNl, gCn, gTp, dSeqOf, dRange1, dRange2, dEnum, dZip, dFor, dForL, dYes, retD, startD, outD, F1_at, F2_at, F3_at, ex2, ex3, sizeLine_eq, rAddD, rMulD, rCmpD, rEqD', rIsD, rInD', rIxD, rLenD, rI0, rDivD, rModD, rPowD, rSubD, ty_n, ty_b, ty_i, ty_s, ty_l, ty_t, ty_d, it_n, it_b, it_i, it_s, it_l, it_t, it_d, fl_n, fl_b, fl_i, fl_s, nn_n, nn_b, nn_i, nn_s, nn_l, nn_t, ln_l, ln_t, ix0, ix1, ix2, ixl1, ixl2, ixl3, ii_n, ii_b, ii_i, ii_s, ii_l, ii_t, ii_d, ev_ii, ev_ss, ev_nn, ev_bb, ev_tt, ev_ll, ev_tn, ev_nt, ev_in, ev_ni, ev_it, ev_ti, ev_st, ev_ts, ev_si, ev_is, ea_nn, ea_nc, ea_cn, ea_cc, st_0_0, st_0_1, st_0_2, st_0_3, st_0_4, st_1_0, st_1_1, st_1_2, st_1_3, st_1_4, st_2_0, st_2_1, st_2_2, st_2_3, st_2_4, st_3_0, st_3_1, st_3_2, st_3_3, st_3_4, st_4_0, st_4_1, st_4_2, st_4_3, st_4_4, so_0, so_1, so_2, so_3, so_4, shp, PyData.canLay0, PyData.canLayAll0, PyData.depth, PyData.depthAll, Way.d, sp_is_integer, isNum, h] at q ⊢
          exact q
        · simp [dVar, dC, dOp, dTest, dChain, dAnd, dOr, dNot, dAndV, dOrV, dNotV, dIf, dNil, dCons, dTup, dLst, dCallL, dRaiseL, dErr, dThunk, dNeg, dNoPart, dPart, dSl, dCB, dIsi, dNext, dSeq, dBreak, dCont, dIfS, dRet, dRetN, dDrop, dSet, dList, dLst', dSetO, dApp, dSetIx, dAsg, dPar, gNm, gNl, gCn, gTp, dSeqOf, dRange1, dRange2, dEnum, dZip, dFor, dForL, dYes, retD, startD, outD, F1_at, F2_at, F3_at, ex2, ex3, sizeLine_eq, rAddD, rMulD, rCmpD, rEqD', rIsD, rInD', rIxD, rLenD, rI0, rDivD, rModD, rPowD, rSubD, ty_n, ty_b, ty_i, ty_s, ty_l, ty_t, ty_d, it_n, it_b, it_i, it_s, it_l, it_t, it_d, fl_n, fl_b, fl_i, fl_s, nn_n, nn_b, nn_i, nn_s, nn_l, nn_t, ln_l, ln_t, ix0, ix1, ix2, ixl1, ixl2, ixl3, ii_n, ii_b, ii_i, ii_s, ii_l, ii_t, ii_d, ev_ii, ev_ss, ev_nn, ev_bb, ev_tt, ev_ll, ev_tn, ev_nt, ev_in, ev_ni, ev_it, ev_ti, ev_st, ev_ts, ev_si, ev_is, ea_nn, ea_nc, ea_cn, ea_cc, st_0_0, st_0_1, st_0_2, st_0_3, st_0_4, st_1_0, st_1_1, st_1_2, st_1_3, st_1_4, st_2_0, st_2_1, st_2_2, st_2_3, st_2_4, st_3_0, st_3_1, st_3_2, st_3_3, st_3_4, st_4_0, st_4_1, st_4_2, st_4_3, st_4_4, so_0, so_1, so_2, so_3, so_4, shp, PyData.canLay0, PyData.canLayAll0, PyData.depth, PyData.depthAll, Way.d, sp_is_integer, isNum, h] at q ⊢
          exact q
      | ch => exact absurd rfl hc
      | _ => simp [dVar, dC, dOp, dTest, dChain, dAnd, dOr, dNot, dAndV, dOrV, dNotV, dIf, dNil, dCons, dTup, dLst, dCallL, dRaiseL, dErr, dThunk, dNeg, dNoPart, dPart, dSl, dCB, dIsi, dNext, dSeq, dBreak, dCont, dIfS, dRet, dRetN, dDrop, dSet, dList, dLst', dSetO, dApp, dSetIx, dAsg, dPar, gNm, gNl, gCn, gTp, dSeqOf, dRange1, dRange2, dEnum, dZip, dFor, dForL, dYes, retD, startD, outD, F1_at, F2_at, F3_at, ex2, ex3, sizeLine_eq, rAddD, rMulD, rCmpD, rEqD', rIsD, rInD', rIxD, rLenD, rI0, rDivD, rModD, rPowD, rSubD, ty_n, ty_b, ty_i, ty_s, ty_l, ty_t, ty_d, it_n, it_b, it_i, it_s, it_l, it_t, it_d, fl_n, fl_b, fl_i, fl_s, nn_n, nn_b, nn_i, nn_s, nn_l, nn_t, ln_l, ln_t, ix0, ix1, ix2, ixl1, ixl2, ixl3, ii_n, ii_b, ii_i, ii_s, ii_l, ii_t, ii_d, ev_ii, ev_ss, ev_nn, ev_bb, ev_tt, ev_ll, ev_tn, ev_nt, ev_in, ev_ni, ev_it, ev_ti, ev_st, ev_ts, ev_si, ev_is, ea_nn, ea_nc, ea_cn, ea_cc, st_0_0, st_0_1, st_0_2, st_0_3, st_0_4, st_1_0, st_1_1, st_1_2, st_1_3, st_1_4, st_2_0, st_2_1, st_2_2, st_2_3, st_2_4, st_3_0, st_3_1, st_3_2, st_3_3, st_3_4, st_4_0, st_4_1, st_4_2, st_4_3, st_4_4, so_0, so_1, so_2, so_3, so_4, shp, PyData.canLay0, PyData.canLayAll0, PyData.depth, PyData.depthAll, Way.d, sp_is_integer, isNum] at q ⊢ <;> exact q
    · rw [isNum_no (by simpa using ix) hc] at q
      cases W with
      | ch => exact absurd rfl hc
      | _ =>
        simp [dVar, dC, dOp, dTest, dChain, dAnd, dOr, dNot, dAndV, dOrV, dNotV, dIf, dNil, dCons, dTup, dLst, dCallL, dRaiseL, dErr, dThunk, dNeg, dNoPart, dPart, dSl, dCB, dIsi, dNext, dSeq, dBreak, dCont, dIfS, dRet, dRetN, dDrop, dSet, dList, dLst', dSetO, dApp, dSetIx, dAsg, dPar, gNm, gNl, gCn, gTp, dSeqOf, dRange1, dRange2, dEnum, dZip, dFor, dForL, dYes, retD, startD, outD, F1_at, F2_at, F3_at, ex2, ex3, sizeLine_eq, rAddD, rMulD, rCmpD, rEqD', rIsD, rInD', rIxD, rLenD, rI0, rDivD, rModD, rPowD, rSubD, ty_n, ty_b, ty_i, ty_s, ty_l, ty_t, ty_d, it_n, it_b, it_i, it_s, it_l, it_t, it_d, fl_n, fl_b, fl_i, fl_s, nn_n, nn_b, nn_i, nn_s, nn_l, nn_t, ln_l, ln_t, ix0, ix1, ix2, ixl1, ixl2, ixl3, ii_n, ii_b, ii_i, ii_s, ii_l, ii_t, ii_d, ev_ii, ev_ss, ev_nn, ev_bb, ev_tt, ev_ll, ev_tn, ev_nt, ev_in, ev_ni, ev_it, ev_ti, ev_st, ev_ts, ev_si, ev_is, ea_nn, ea_nc, ea_cn, ea_cc, st_0_0, st_0_1, st_0_2, st_0_3, st_0_4, st_1_0, st_1_1, st_1_2, st_1_3, st_1_4, st_2_0, st_2_1, st_2_2, st_2_3, st_2_4, st_3_0, st_3_1, st_3_2, st_3_3, st_3_4, st_4_0, st_4_1, st_4_2, st_4_3, st_4_4, so_0, so_1, so_2, so_3, so_4, shp, PyData.canLay0, PyData.canLayAll0, PyData.depth, PyData.depthAll, Way.d, sp_is_integer, ix, tx] at q ⊢
        exact q
def sp_one_in (ca : Str → Addr) : SpD := GS (fun a : Way => [a.d]) (fun a => a.ok) (fun a => .ok (one a))
theorem mo_one_in {ca : Str → Addr} : SpMono (sp_one_in ca) := GS.mo
theorem sc_one_in : FnScope ["way"] ["way"] (defScope s_one_in) := ⟨rfl, rfl, rfl, by decide +kernel, rfl, by decide +kernel, by decide +kernel⟩
theorem ok_one_in {w : World} {K : PySem.W.Frag} {mg : Str → Option Value} {base : Heap} {ca : Str → Addr} (T : Txt K mg ca) : DOk prog w K mg base 1 "one_in" ["way"] (sp_one_in ca) := by
  refine dok T.a_one_in sc_one_in (GS.len fun _ => rfl) fun f cdv A outer s S F H E hr => ⟨_, (pxs_cons (pxs_if (pxt_cmp (od_eq (Room.eqU hr)) (px_ix id_ix (px_var 0 (pv 0)) (px_c pe_int fun _ _ => .int _) (fun _ _ => rfl)) (px_glob T.c_CHANCE) (nomark _)) (pxs_cons (pxs_ret (px_tup (pxa_cons (px_c pe_int fun _ _ => .int _) (pxa_cons (px_c pe_int fun _ _ => .int _) pxa_nil)))) pxs_nil) pxs_nil) (pxs_cons (pxs_ret (px_if (pxt_cmp (od_eq (Room.eqU hr)) (px_ix id_ix (px_var 0 (pv 0)) (px_c pe_int fun _ _ => .int _) (fun _ _ => rfl)) (px_glob T.c_COST) (nomark _)) (px_c pe_int fun _ _ => .int _) (px_c pe_int fun _ _ => .int _))) pxs_nil)), ?_⟩
  rintro ds n Q ⟨W, rfl, hW, q⟩
  cases W <;> simp [dVar, dC, dOp, dTest, dChain, dAnd, dOr, dNot, dAndV, dOrV, dNotV, dIf, dNil, dCons, dTup, dLst, dCallL, dRaiseL, dErr, dThunk, dNeg, dNoPart, dPart, dSl, dCB, dIsi, dNext, dSeq, dBreak, dCont, dIfS, dRet, dRetN, dDrop, dSet, dList, dLst', dSetO, dApp, dSetIx, dAsg, dPar, gNm, gNl, gCn, gTp, dSeqOf, dRange1, dRange2, dEnum, dZip, dFor, dForL, dYes, retD, startD, outD, F1_at, F2_at, F3_at, ex2, ex3, sizeLine_eq, rAddD, rMulD, rCmpD, rEqD', rIsD, rInD', rIxD, rLenD, rI0, rDivD, rModD, rPowD, rSubD, ty_n, ty_b, ty_i, ty_s, ty_l, ty_t, ty_d, it_n, it_b, it_i, it_s, it_l, it_t, it_d, fl_n, fl_b, fl_i, fl_s, nn_n, nn_b, nn_i, nn_s, nn_l, nn_t, ln_l, ln_t, ix0, ix1, ix2, ixl1, ixl2, ixl3, ii_n, ii_b, ii_i, ii_s, ii_l, ii_t, ii_d, ev_ii, ev_ss, ev_nn, ev_bb, ev_tt, ev_ll, ev_tn, ev_nt, ev_in, ev_ni, ev_it, ev_ti, ev_st, ev_ts, ev_si, ev_is, ea_nn, ea_nc, ea_cn, ea_cc, st_0_0, st_0_1, st_0_2, st_0_3, st_0_4, st_1_0, st_1_1, st_1_2, st_1_3, st_1_4, st_2_0, st_2_1, st_2_2, st_2_3, st_2_4, st_3_0, st_3_1, st_3_2, st_3_3, st_3_4, st_4_0, st_4_1, st_4_2, st_4_3, st_4_4, so_0, so_1, so_2, so_3, so_4, shp, PyData.canLay0, PyData.canLayAll0, PyData.depth, PyData.depthAll, Way.d, one] at q ⊢ <;> exact q
def sp_left_by (ca : Str → Addr) : SpD := GS (fun a : Int × Int => [(Way.lf a.1).d, .int a.2]) (fun a => 2 ≤ a.1 ∧ a.1 ≤ 1000) (fun a => .ok (left a.1 a.2))
theorem mo_left_by {ca : Str → Addr} : SpMono (sp_left_by ca) := GS.mo
theorem sc_left_by : FnScope ["way", "number", "left"] ["way", "number"] (defScope s_left_by) := ⟨rfl, rfl, rfl, by decide +kernel, rfl, by decide +kernel, by decide +kernel⟩
theorem ok_left_by {w : World} {K : PySem.W.Frag} {mg : Str → Option Value} {base : Heap} {ca : Str → Addr} (T : Txt K mg ca) : DOk prog w K mg base 1 "left_by" ["way", "number"] (sp_left_by ca) := by
  refine dok T.a_left_by sc_left_by (GS.len fun _ => rfl) fun f cdv A outer s S F H E hr => ⟨_, (pxs_cons (pxs_set 2 sc_left_by.nd rfl (.inl rfl) (px_op od_mod (px_var 1 (pv 1)) (px_ix id_ix (px_var 0 (pv 0)) (px_c pe_int fun _ _ => .int _) (fun _ _ => rfl)))) (pxs_cons (pxs_ret (px_if (pxt_cmp od_gt (px_var 2 (pv 2)) (px_c pe_int fun _ _ => .int _) (nomark _)) (px_var 2 (pv 2)) (px_c pe_non fun _ _ => .non))) pxs_nil)), ?_⟩
  rintro ds n Q ⟨⟨m, k⟩, rfl, ⟨h1, h2⟩, q⟩
  dsimp only at h1 h2 q ⊢
  have hm : 0 < m := by omega
  by_cases h : 0 < k % m
  · simp [dVar, dC, dOp, dTest, dChain, dAnd, dOr, dNot, dAndV, dOrV, dNotV, dIf, dNil, dCons, dTup, dLst, dCallL, dRaiseL, dErr, dThunk, dNeg, dNoPart, dPart, dSl, dCB, dIsi, dNext, dSeq, dBreak, dCont, dIfS, dRet, dRetN, dDrop, dSet, dList, dLst', dSetO, dApp, dSetIx, dAsg, dPar, gNm, gNl, gCn, gTp, dSeqOf, dRange1, dRange2, dEnum, dZip, dFor, dForL, dYes, retD, startD, outD, F1_at, F2_at, F3_at, ex2, ex3, sizeLine_eq, rAddD, rMulD, rCmpD, rEqD', rIsD, rInD', rIxD, rLenD, rI0, rDivD, rModD, rPowD, rSubD, ty_n, ty_b, ty_i, ty_s, ty_l, ty_t, ty_d, it_n, it_b, it_i, it_s, it_l, it_t, it_d, fl_n, fl_b, fl_i, fl_s, nn_n, nn_b, nn_i, nn_s, nn_l, nn_t, ln_l, ln_t, ix0, ix1, ix2, ixl1, ixl2, ixl3, ii_n, ii_b, ii_i, ii_s, ii_l, ii_t, ii_d, ev_ii, ev_ss, ev_nn, ev_bb, ev_tt, ev_ll, ev_tn, ev_nt, ev_in, ev_ni, ev_it, ev_ti, ev_st, ev_ts, ev_si, ev_is, ea_nn, ea_nc, ea_cn, ea_cc, st_0_0, st_0_1, st_0_2, st_0_3, st_0_4, st_1_0, st_1_1, st_1_2, st_1_3, st_1_4, st_2_0, st_2_1, st_2_2, st_2_3, st_2_4, st_3_0, st_3_1, st_3_2, st_3_3, st_3_4, st_4_0, st_4_1, st_4_2, st_4_3, st_4_4, so_0, so_1, so_2, so_3, so_4, shp, PyData.canLay0, PyData.canLayAll0, PyData.depth, PyData.depthAll, Way.d, left, h, hm] at q ⊢
    exact q
  · simp [dVar, dC, dOp, dTest, dChain, dAnd, dOr, dNot, dAndV, dOrV, dNotV, dIf, dNil, dCons, dTup, dLst, dCallL, dRaiseL, dErr, dThunk, dNeg, dNoPart, dPart, dSl, dCB, dIsi, dNext, dSeq, dBreak, dCont, dIfS, dRet, dRetN, dDrop, dSet, dList, dLst', dSetO, dApp, dSetIx, dAsg, dPar, gNm, gNl, gCn, gTp, dSeqOf, dRange1, dRange2, dEnum, dZip, dFor, dForL, dYes, retD, startD, outD, F1_at, F2_at, F3_at, ex2, ex3, sizeLine_eq, rAddD, rMulD, rCmpD, rEqD', rIsD, rInD', rIxD, rLenD, rI0, rDivD, rModD, rPowD, rSubD, ty_n, ty_b, ty_i, ty_s, ty_l, ty_t, ty_d, it_n, it_b, it_i, it_s, it_l, it_t, it_d, fl_n, fl_b, fl_i, fl_s, nn_n, nn_b, nn_i, nn_s, nn_l, nn_t, ln_l, ln_t, ix0, ix1, ix2, ixl1, ixl2, ixl3, ii_n, ii_b, ii_i, ii_s, ii_l, ii_t, ii_d, ev_ii, ev_ss, ev_nn, ev_bb, ev_tt, ev_ll, ev_tn, ev_nt, ev_in, ev_ni, ev_it, ev_ti, ev_st, ev_ts, ev_si, ev_is, ea_nn, ea_nc, ea_cn, ea_cc, st_0_0, st_0_1, st_0_2, st_0_3, st_0_4, st_1_0, st_1_1, st_1_2, st_1_3, st_1_4, st_2_0, st_2_1, st_2_2, st_2_3, st_2_4, st_3_0, st_3_1, st_3_2, st_3_3, st_3_4, st_4_0, st_4_1, st_4_2, st_4_3, st_4_4, so_0, so_1, so_2, so_3, so_4, shp, PyData.canLay0, PyData.canLayAll0, PyData.depth, PyData.depthAll, Way.d, left, h, hm] at q ⊢
    exact q
def sp_added_by (ca : Str → Addr) : SpD := GS (fun a : Way × D × D => [a.1.d, a.2.1, a.2.2]) (fun a => a.1.ok ∧ okNum a.1 a.2.1 ∧ okNum a.1 a.2.2 ∧ bd 2000 a.2.1 ∧ bd 2000 a.2.2) (fun a => .ok (addD a.1 a.2.1 a.2.2))
theorem mo_added_by {ca : Str → Addr} : SpMono (sp_added_by ca) := GS.mo
theorem sc_added_by : FnScope ["way", "one", "other"] ["way", "one", "other"] (defScope s_added_by) := ⟨rfl, rfl, rfl, by decide +kernel, rfl, by decide +kernel, by decide +kernel⟩
theorem ok_added_by {w : World} {K : PySem.W.Frag} {mg : Str → Option Value} {base : Heap} {ca : Str → Addr} (T : Txt K mg ca) (h_fraction_of : DOk prog w K mg base 1 "fraction_of" ["over", "under"] (sp_fraction_of ca)) (h_left_by : DOk prog w K mg base 1 "left_by" ["way", "number"] (sp_left_by ca)) : DOk prog w K mg base 2 "added_by" ["way", "one", "other"] (sp_added_by ca) := by
  refine dok T.a_added_by sc_added_by (GS.len fun _ => rfl) fun f cdv A outer s S F H E hr => ⟨_, (pxs_cons (pxs_if (PXW.pt (pxw_or (pxt_cmp od_is (px_var 1 (pv 1)) (px_c pe_non fun _ _ => .non) (nomark _)) (pxw_or1 (pxt_cmp od_is (px_var 2 (pv 2)) (px_c pe_non fun _ _ => .non) (nomark _))))) (pxs_cons (pxs_ret (px_if (pxt_cmp od_is (px_var 2 (pv 2)) (px_c pe_non fun _ _ => .non) (nomark _)) (px_var 1 (pv 1)) (px_var 2 (pv 2)))) pxs_nil) pxs_nil) (pxs_cons (pxs_if (pxt_cmp (od_eq (Room.eqU hr)) (px_ix id_ix (px_var 0 (pv 0)) (px_c pe_int fun _ _ => .int _) (fun _ _ => rfl)) (px_glob T.c_WHETHER) (nomark _)) (pxs_cons (pxs_ret (px_c pe_int fun _ _ => .int _)) pxs_nil) pxs_nil) (pxs_cons (pxs_if (pxt_cmp (od_eq (Room.eqU hr)) (px_ix id_ix (px_var 0 (pv 0)) (px_c pe_int fun _ _ => .int _) (fun _ _ => rfl)) (px_glob T.c_COST) (nomark _)) (pxs_cons (pxs_ret (px_callB (cd_min2 rfl) rfl T.b_min rfl (pxa_cons (px_var 1 (pv 1)) (pxa_cons (px_var 2 (pv 2)) pxa_nil)))) pxs_nil) pxs_nil) (pxs_cons (pxs_if (pxt_cmp (od_eq (Room.eqU hr)) (px_ix id_ix (px_var 0 (pv 0)) (px_c pe_int fun _ _ => .int _) (fun _ _ => rfl)) (px_glob T.c_CHANCE) (nomark _)) (pxs_cons (pxs_ret (px_callL lets_cx h_fraction_of mo_fraction_of (hr.mono (by decide)) (pxa_cons (px_op od_add (px_op od_mul (px_ix id_ix (px_var 1 (pv 1)) (px_c pe_int fun _ _ => .int _) (fun _ _ => rfl)) (px_ix id_ix (px_var 2 (pv 2)) (px_c pe_int fun _ _ => .int _) (fun _ _ => rfl))) (px_op od_mul (px_ix id_ix (px_var 2 (pv 2)) (px_c pe_int fun _ _ => .int _) (fun _ _ => rfl)) (px_ix id_ix (px_var 1 (pv 1)) (px_c pe_int fun _ _ => .int _) (fun _ _ => rfl)))) (pxa_cons (px_op od_mul (px_ix id_ix (px_var 1 (pv 1)) (px_c pe_int fun _ _ => .int _) (fun _ _ => rfl)) (px_ix id_ix (px_var 2 (pv 2)) (px_c pe_int fun _ _ => .int _) (fun _ _ => rfl))) pxa_nil)))) pxs_nil) pxs_nil) (pxs_cons (pxs_if (pxt_cmp (od_eq (Room.eqU hr)) (px_ix id_ix (px_var 0 (pv 0)) (px_c pe_int fun _ _ => .int _) (fun _ _ => rfl)) (px_glob T.c_COUNT) (nomark _)) (pxs_cons (pxs_ret (px_op od_add (px_var 1 (pv 1)) (px_var 2 (pv 2)))) pxs_nil) pxs_nil) (pxs_cons (pxs_ret (px_callL lets_cx h_left_by mo_left_by (hr.mono (by decide)) (pxa_cons (px_var 0 (pv 0)) (pxa_cons (px_op od_add (px_var 1 (pv 1)) (px_var 2 (pv 2))) pxa_nil)))) pxs_nil)))))), ?_⟩
  rintro ds n Q ⟨⟨W, x, y⟩, rfl, ⟨hW, hx, hy, bx, bY⟩, q⟩
  dsimp only at hW hx hy bx bY q ⊢
  rcases non_cases hx with ⟨nx, rfl⟩ | ⟨nx, kx⟩
  · rw [add_nl] at q
    rcases non_cases hy with ⟨ny, rfl⟩ | ⟨ny, ky⟩
    · simp [dVar, dC, dOp, dTest, dChain, dAnd, dOr, dNot, dAndV, dOrV, dNotV, dIf, dNil, dCons, dTup, dLst, dCallL, dRaiseL, dErr, dThunk, dNeg, dNoPart, dPart, dSl, dCB, dIsi, dNext, dSeq, dBreak, dCont, dIfS, dRet, dRetN, dDrop, dSet, dList, dLst', dSetO, dApp, dSetIx, dAsg, dPar, gNm, gNl, gCn, gTp, dSeqOf, dRange1, dRange2, dEnum, dZip, dFor, dForL, dYes, retD, startD, outD, F1_at, F2_at, F3_at, ex2, ex3, sizeLine_eq, rAddD, rMulD, rCmpD, rEqD', rIsD, rInD', rIxD, rLenD, rI0, rDivD, rModD, rPowD, rSubD, ty_n, ty_b, ty_i, ty_s, ty_l, ty_t, ty_d, it_n, it_b, it_i, it_s, it_l, it_t, it_d, fl_n, fl_b, fl_i, fl_s, nn_n, nn_b, nn_i, nn_s, nn_l, nn_t, ln_l, ln_t, ix0, ix1, ix2, ixl1, ixl2, ixl3, ii_n, ii_b, ii_i, ii_s, ii_l, ii_t, ii_d, ev_ii, ev_ss, ev_nn, ev_bb, ev_tt, ev_ll, ev_tn, ev_nt, ev_in, ev_ni, ev_it, ev_ti, ev_st, ev_ts, ev_si, ev_is, ea_nn, ea_nc, ea_cn, ea_cc, st_0_0, st_0_1, st_0_2, st_0_3, st_0_4, st_1_0, st_1_1, st_1_2, st_1_3, st_1_4, st_2_0, st_2_1, st_2_2, st_2_3, st_2_4, st_3_0, st_3_1, st_3_2, st_3_3, st_3_4, st_4_0, st_4_1, st_4_2, st_4_3, st_4_4, so_0, so_1, so_2, so_3, so_4] at q ⊢
      exact q
    · simp [dVar, dC, dOp, dTest, dChain, dAnd, dOr, dNot, dAndV, dOrV, dNotV, dIf, dNil, dCons, dTup, dLst, dCallL, dRaiseL, dErr, dThunk, dNeg, dNoPart, dPart, dSl, dCB, dIsi, dNext, dSeq, dBreak, dCont, dIfS, dRet, dRetN, dDrop, dSet, dList, dLst', dSetO, dApp, dSetIx, dAsg, dPar, gNm, gNl, gCn, gTp, dSeqOf, dRange1, dRange2, dEnum, dZip, dFor, dForL, dYes, retD, startD, outD, F1_at, F2_at, F3_at, ex2, ex3, sizeLine_eq, rAddD, rMulD, rCmpD, rEqD', rIsD, rInD', rIxD, rLenD, rI0, rDivD, rModD, rPowD, rSubD, ty_n, ty_b, ty_i, ty_s, ty_l, ty_t, ty_d, it_n, it_b, it_i, it_s, it_l, it_t, it_d, fl_n, fl_b, fl_i, fl_s, nn_n, nn_b, nn_i, nn_s, nn_l, nn_t, ln_l, ln_t, ix0, ix1, ix2, ixl1, ixl2, ixl3, ii_n, ii_b, ii_i, ii_s, ii_l, ii_t, ii_d, ev_ii, ev_ss, ev_nn, ev_bb, ev_tt, ev_ll, ev_tn, ev_nt, ev_in, ev_ni, ev_it, ev_ti, ev_st, ev_ts, ev_si, ev_is, ea_nn, ea_nc, ea_cn, ea_cc, st_0_0, st_0_1, st_0_2, st_0_3, st_0_4, st_1_0, st_1_1, st_1_2, st_1_3, st_1_4, st_2_0, st_2_1, st_2_2, st_2_3, st_2_4, st_3_0, st_3_1, st_3_2, st_3_3, st_3_4, st_4_0, st_4_1, st_4_2, st_4_3, st_4_4, so_0, so_1, so_2, so_3, so_4, ny] at q ⊢
      exact q
  rcases non_cases hy with ⟨ny, rfl⟩ | ⟨ny, ky⟩
  · rw [add_nr] at q
    simp [dVar, dC, dOp, dTest, dChain, dAnd, dOr, dNot, dAndV, dOrV, dNotV, dIf, dNil, dCons, dTup, dLst, dCallL, dRaiseL, dErr, dThunk, dNeg, dNoPart, dPart, dSl, dCB, dIsi, dNext, dSeq, dBreak, dCont, dIfS, dRet, dRetN, dDrop, dSet, dList, dLst', dSetO, dApp, dSetIx, dAsg, dPar, gNm, gNl, gCn, gTp, dSeqOf, dRange1, dRange2, dEnum, dZip, dFor, dForL, dYes, retD, startD, outD, F1_at, F2_at, F3_at, ex2, ex3, sizeLine_eq, rAddD, rMulD, rCmpD, rEqD', rIsD, rInD', rIxD, rLenD, rI0, rDivD, rModD, rPowD, rSubD, ty_n, ty_b, ty_i, ty_s, ty_l, ty_t, ty_d, it_n, it_b, it_i, it_s, it_l, it_t, it_d, fl_n, fl_b, fl_i, fl_s, nn_n, nn_b, nn_i, nn_s, nn_l, nn_t, ln_l, ln_t, ix0, ix1, ix2, ixl1, ixl2, ixl3, ii_n, ii_b, ii_i, ii_s, ii_l, ii_t, ii_d, ev_ii, ev_ss, ev_nn, ev_bb, ev_tt, ev_ll, ev_tn, ev_nt, ev_in, ev_ni, ev_it, ev_ti, ev_st, ev_ts, ev_si, ev_is, ea_nn, ea_nc, ea_cn, ea_cc, st_0_0, st_0_1, st_0_2, st_0_3, st_0_4, st_1_0, st_1_1, st_1_2, st_1_3, st_1_4, st_2_0, st_2_1, st_2_2, st_2_3, st_2_4, st_3_0, st_3_1, st_3_2, st_3_3, st_3_4, st_4_0, st_4_1, st_4_2, st_4_3, st_4_4, so_0, so_1, so_2, so_3, so_4, nx] at q ⊢
    exact q
  by_cases c : W = .ch
  · subst c
    obtain ⟨p, s, rfl, p1, s1, _⟩ := num_fr kx
    obtain ⟨r, t, rfl, r1, t1, _⟩ := num_fr ky
    obtain ⟨bp, bs⟩ := bx
    obtain ⟨br, bt⟩ := bY
    have m1 := log_mul (nb_le bp (by decide)) (nb_le bt (by decide))
    have m2 := log_mul (nb_le br (by decide)) (nb_le bs (by decide))
    have m3 := log_mul (nb_le bs (by decide)) (nb_le bt (by decide))
    have m4 := log_mul (nb_le bp (by decide)) (nb_le br (by decide))
    have pos := Int.mul_pos s1 t1
    have num : 0 < p * t + r * s := by
      have := Int.mul_pos p1 t1
      have := Int.mul_pos r1 s1
      omega
    have numM := Int.mul_pos p1 r1
    have bn : (s * t).natAbs < 2 ^ 8000 := nb_le (nb_mul bs bt) (by decide)
    simp [dVar, dC, dOp, dTest, dChain, dAnd, dOr, dNot, dAndV, dOrV, dNotV, dIf, dNil, dCons, dTup, dLst, dCallL, dRaiseL, dErr, dThunk, dNeg, dNoPart, dPart, dSl, dCB, dIsi, dNext, dSeq, dBreak, dCont, dIfS, dRet, dRetN, dDrop, dSet, dList, dLst', dSetO, dApp, dSetIx, dAsg, dPar, gNm, gNl, gCn, gTp, dSeqOf, dRange1, dRange2, dEnum, dZip, dFor, dForL, dYes, retD, startD, outD, F1_at, F2_at, F3_at, ex2, ex3, sizeLine_eq, rAddD, rMulD, rCmpD, rEqD', rIsD, rInD', rIxD, rLenD, rI0, rDivD, rModD, rPowD, rSubD, ty_n, ty_b, ty_i, ty_s, ty_l, ty_t, ty_d, it_n, it_b, it_i, it_s, it_l, it_t, it_d, fl_n, fl_b, fl_i, fl_s, nn_n, nn_b, nn_i, nn_s, nn_l, nn_t, ln_l, ln_t, ix0, ix1, ix2, ixl1, ixl2, ixl3, ii_n, ii_b, ii_i, ii_s, ii_l, ii_t, ii_d, ev_ii, ev_ss, ev_nn, ev_bb, ev_tt, ev_ll, ev_tn, ev_nt, ev_in, ev_ni, ev_it, ev_ti, ev_st, ev_ts, ev_si, ev_is, ea_nn, ea_nc, ea_cn, ea_cc, st_0_0, st_0_1, st_0_2, st_0_3, st_0_4, st_1_0, st_1_1, st_1_2, st_1_3, st_1_4, st_2_0, st_2_1, st_2_2, st_2_3, st_2_4, st_3_0, st_3_1, st_3_2, st_3_3, st_3_4, st_4_0, st_4_1, st_4_2, st_4_3, st_4_4, so_0, so_1, so_2, so_3, so_4, shp, PyData.canLay0, PyData.canLayAll0, PyData.depth, PyData.depthAll, Way.d, addD, m1, m2, m3, m4] at q ⊢
    exact ⟨(p * t + r * s, s * t), rfl, ⟨pos, bn⟩, q⟩
  · obtain ⟨i, rfl⟩ := num_int c kx
    obtain ⟨j, rfl⟩ := num_int c ky
    have m5 := log_mul (nb_le (show i.natAbs < 2 ^ 2000 from bx) (by decide)) (nb_le (show j.natAbs < 2 ^ 2000 from bY) (by decide))
    cases W with
    | ch => exact absurd rfl c
    | lf m =>
      have hm : 0 < m := by
        have := hW.1
        omega
      simp [dVar, dC, dOp, dTest, dChain, dAnd, dOr, dNot, dAndV, dOrV, dNotV, dIf, dNil, dCons, dTup, dLst, dCallL, dRaiseL, dErr, dThunk, dNeg, dNoPart, dPart, dSl, dCB, dIsi, dNext, dSeq, dBreak, dCont, dIfS, dRet, dRetN, dDrop, dSet, dList, dLst', dSetO, dApp, dSetIx, dAsg, dPar, gNm, gNl, gCn, gTp, dSeqOf, dRange1, dRange2, dEnum, dZip, dFor, dForL, dYes, retD, startD, outD, F1_at, F2_at, F3_at, ex2, ex3, sizeLine_eq, rAddD, rMulD, rCmpD, rEqD', rIsD, rInD', rIxD, rLenD, rI0, rDivD, rModD, rPowD, rSubD, ty_n, ty_b, ty_i, ty_s, ty_l, ty_t, ty_d, it_n, it_b, it_i, it_s, it_l, it_t, it_d, fl_n, fl_b, fl_i, fl_s, nn_n, nn_b, nn_i, nn_s, nn_l, nn_t, ln_l, ln_t, ix0, ix1, ix2, ixl1, ixl2, ixl3, ii_n, ii_b, ii_i, ii_s, ii_l, ii_t, ii_d, ev_ii, ev_ss, ev_nn, ev_bb, ev_tt, ev_ll, ev_tn, ev_nt, ev_in, ev_ni, ev_it, ev_ti, ev_st, ev_ts, ev_si, ev_is, ea_nn, ea_nc, ea_cn, ea_cc, st_0_0, st_0_1, st_0_2, st_0_3, st_0_4, st_1_0, st_1_1, st_1_2, st_1_3, st_1_4, st_2_0, st_2_1, st_2_2, st_2_3, st_2_4, st_3_0, st_3_1, st_3_2, st_3_3, st_3_4, st_4_0, st_4_1, st_4_2, st_4_3, st_4_4, so_0, so_1, so_2, so_3, so_4, shp, PyData.canLay0, PyData.canLayAll0, PyData.depth, PyData.depthAll, Way.d, addD, addI, m5] at q ⊢
      exact ⟨(m, i + j), rfl, hW, q⟩
    | _ => simp [dVar, dC, dOp, dTest, dChain, dAnd, dOr, dNot, dAndV, dOrV, dNotV, dIf, dNil, dCons, dTup, dLst, dCallL, dRaiseL, dErr, dThunk, dNeg, dNoPart, dPart, dSl, dCB, dIsi, dNext, dSeq, dBreak, dCont, dIfS, dRet, dRetN, dDrop, dSet, dList, dLst', dSetO, dApp, dSetIx, dAsg, dPar, gNm, gNl, gCn, gTp, dSeqOf, dRange1, dRange2, dEnum, dZip, dFor, dForL, dYes, retD, startD, outD, F1_at, F2_at, F3_at, ex2, ex3, sizeLine_eq, rAddD, rMulD, rCmpD, rEqD', rIsD, rInD', rIxD, rLenD, rI0, rDivD, rModD, rPowD, rSubD, ty_n, ty_b, ty_i, ty_s, ty_l, ty_t, ty_d, it_n, it_b, it_i, it_s, it_l, it_t, it_d, fl_n, fl_b, fl_i, fl_s, nn_n, nn_b, nn_i, nn_s, nn_l, nn_t, ln_l, ln_t, ix0, ix1, ix2, ixl1, ixl2, ixl3, ii_n, ii_b, ii_i, ii_s, ii_l, ii_t, ii_d, ev_ii, ev_ss, ev_nn, ev_bb, ev_tt, ev_ll, ev_tn, ev_nt, ev_in, ev_ni, ev_it, ev_ti, ev_st, ev_ts, ev_si, ev_is, ea_nn, ea_nc, ea_cn, ea_cc, st_0_0, st_0_1, st_0_2, st_0_3, st_0_4, st_1_0, st_1_1, st_1_2, st_1_3, st_1_4, st_2_0, st_2_1, st_2_2, st_2_3, st_2_4, st_3_0, st_3_1, st_3_2, st_3_3, st_3_4, st_4_0, st_4_1, st_4_2, st_4_3, st_4_4, so_0, so_1, so_2, so_3, so_4, shp, PyData.canLay0, PyData.canLayAll0, PyData.depth, PyData.depthAll, Way.d, addD, addI, m5] at q ⊢ <;> exact q
def sp_multiplied_by (ca : Str → Addr) : SpD := GS (fun a : Way × D × D => [a.1.d, a.2.1, a.2.2]) (fun a => a.1.ok ∧ okNum a.1 a.2.1 ∧ okNum a.1 a.2.2 ∧ bd 2000 a.2.1 ∧ bd 2000 a.2.2) (fun a => .ok (mulD a.1 a.2.1 a.2.2))
theorem mo_multiplied_by {ca : Str → Addr} : SpMono (sp_multiplied_by ca) := GS.mo
theorem sc_multiplied_by : FnScope ["way", "one", "other"] ["way", "one", "other"] (defScope s_multiplied_by) := ⟨rfl, rfl, rfl, by decide +kernel, rfl, by decide +kernel, by decide +kernel⟩
theorem ok_multiplied_by {w : World} {K : PySem.W.Frag} {mg : Str → Option Value} {base : Heap} {ca : Str → Addr} (T : Txt K mg ca) (h_fraction_of : DOk prog w K mg base 1 "fraction_of" ["over", "under"] (sp_fraction_of ca)) (h_left_by : DOk prog w K mg base 1 "left_by" ["way", "number"] (sp_left_by ca)) : DOk prog w K mg base 2 "multiplied_by" ["way", "one", "other"] (sp_multiplied_by ca) := by
  refine dok T.a_multiplied_by sc_multiplied_by (GS.len fun _ => rfl) fun f cdv A outer s S F H E hr => ⟨_, (pxs_cons (pxs_if (PXW.pt (pxw_or (pxt_cmp od_is (px_var 1 (pv 1)) (px_c pe_non fun _ _ => .non) (nomark _)) (pxw_or1 (pxt_cmp od_is (px_var 2 (pv 2)) (px_c pe_non fun _ _ => .non) (nomark _))))) (pxs_cons (pxs_ret (px_c pe_non fun _ _ => .non)) pxs_nil) pxs_nil) (pxs_cons (pxs_if (pxt_cmp (od_eq (Room.eqU hr)) (px_ix id_ix (px_var 0 (pv 0)) (px_c pe_int fun _ _ => .int _) (fun _ _ => rfl)) (px_glob T.c_WHETHER) (nomark _)) (pxs_cons (pxs_ret (px_c pe_int fun _ _ => .int _)) pxs_nil) pxs_nil) (pxs_cons (pxs_if (pxt_cmp (od_eq (Room.eqU hr)) (px_ix id_ix (px_var 0 (pv 0)) (px_c pe_int fun _ _ => .int _) (fun _ _ => rfl)) (px_glob T.c_COST) (nomark _)) (pxs_cons (pxs_ret (px_op od_add (px_var 1 (pv 1)) (px_var 2 (pv 2)))) pxs_nil) pxs_nil) (pxs_cons (pxs_if (pxt_cmp (od_eq (Room.eqU hr)) (px_ix id_ix (px_var 0 (pv 0)) (px_c pe_int fun _ _ => .int _) (fun _ _ => rfl)) (px_glob T.c_CHANCE) (nomark _)) (pxs_cons (pxs_ret (px_callL lets_cx h_fraction_of mo_fraction_of (hr.mono (by decide)) (pxa_cons (px_op od_mul (px_ix id_ix (px_var 1 (pv 1)) (px_c pe_int fun _ _ => .int _) (fun _ _ => rfl)) (px_ix id_ix (px_var 2 (pv 2)) (px_c pe_int fun _ _ => .int _) (fun _ _ => rfl))) (pxa_cons (px_op od_mul (px_ix id_ix (px_var 1 (pv 1)) (px_c pe_int fun _ _ => .int _) (fun _ _ => rfl)) (px_ix id_ix (px_var 2 (pv 2)) (px_c pe_int fun _ _ => .int _) (fun _ _ => rfl))) pxa_nil)))) pxs_nil) pxs_nil) (pxs_cons (pxs_if (pxt_cmp (od_eq (Room.eqU hr)) (px_ix id_ix (px_var 0 (pv 0)) (px_c pe_int fun _ _ => .int _) (fun _ _ => rfl)) (px_glob T.c_COUNT) (nomark _)) (pxs_cons (pxs_ret (px_op od_mul (px_var 1 (pv 1)) (px_var 2 (pv 2)))) pxs_nil) pxs_nil) (pxs_cons (pxs_ret (px_callL lets_cx h_left_by mo_left_by (hr.mono (by decide)) (pxa_cons (px_var 0 (pv 0)) (pxa_cons (px_op od_mul (px_var 1 (pv 1)) (px_var 2 (pv 2))) pxa_nil)))) pxs_nil)))))), ?_⟩
  rintro ds n Q ⟨⟨W, x, y⟩, rfl, ⟨hW, hx, hy, bx, bY⟩, q⟩
  dsimp only at hW hx hy bx bY q ⊢
  rcases non_cases hx with ⟨nx, rfl⟩ | ⟨nx, kx⟩
  · rw [mul_nl] at q
    rcases non_cases hy with ⟨ny, rfl⟩ | ⟨ny, ky⟩
    · simp [dVar, dC, dOp, dTest, dChain, dAnd, dOr, dNot, dAndV, dOrV, dNotV, dIf, dNil, dCons, dTup, dLst, dCallL, dRaiseL, dErr, dThunk, dNeg, dNoPart, dPart, dSl, dCB, dIsi, dNext, dSeq, dBreak, dCont, dIfS, dRet, dRetN, dDrop, dSet, dList, dLst', dSetO, dApp, dSetIx, dAsg, dPar, gNm, gNl, gCn, gTp, dSeqOf, dRange1, dRange2, dEnum, dZip, dFor, dForL, dYes, retD, startD, outD, F1_at, F2_at, F3_at, ex2, ex3, sizeLine_eq, rAddD, rMulD, rCmpD, rEqD', rIsD, rInD', rIxD, rLenD, rI0, rDivD, rModD, rPowD, rSubD, ty_n, ty_b, ty_i, ty_s, ty_l, ty_t, ty_d, it_n, it_b, it_i, it_s, it_l, it_t, it_d, fl_n, fl_b, fl_i, fl_s, nn_n, nn_b, nn_i, nn_s, nn_l, nn_t, ln_l, ln_t, ix0, ix1, ix2, ixl1, ixl2, ixl3, ii_n, ii_b, ii_i, ii_s, ii_l, ii_t, ii_d, ev_ii, ev_ss, ev_nn, ev_bb, ev_tt, ev_ll, ev_tn, ev_nt, ev_in, ev_ni, ev_it, ev_ti, ev_st, ev_ts, ev_si, ev_is, ea_nn, ea_nc, ea_cn, ea_cc, st_0_0, st_0_1, st_0_2, st_0_3, st_0_4, st_1_0, st_1_1, st_1_2, st_1_3, st_1_4, st_2_0, st_2_1, st_2_2, st_2_3, st_2_4, st_3_0, st_3_1, st_3_2, st_3_3, st_3_4, st_4_0, st_4_1, st_4_2, st_4_3, st_4_4, so_0, so_1, so_2, so_3, so_4] at q ⊢
      exact q
    · simp [dVar, dC, dOp, dTest, dChain, dAnd, dOr, dNot, dAndV, dOrV, dNotV, dIf, dNil, dCons, dTup, dLst, dCallL, dRaiseL, dErr, dThunk, dNeg, dNoPart, dPart, dSl, dCB, dIsi, dNext, dSeq, dBreak, dCont, dIfS, dRet, dRetN, dDrop, dSet, dList, dLst', dSetO, dApp, dSetIx, dAsg, dPar, gNm, gNl, gCn, gTp, dSeqOf, dRange1, dRange2, dEnum, dZip, dFor, dForL, dYes, retD, startD, outD, F1_at, F2_at, F3_at, ex2, ex3, sizeLine_eq, rAddD, rMulD, rCmpD, rEqD', rIsD, rInD', rIxD, rLenD, rI0, rDivD, rModD, rPowD, rSubD, ty_n, ty_b, ty_i, ty_s, ty_l, ty_t, ty_d, it_n, it_b, it_i, it_s, it_l, it_t, it_d, fl_n, fl_b, fl_i, fl_s, nn_n, nn_b, nn_i, nn_s, nn_l, nn_t, ln_l, ln_t, ix0, ix1, ix2, ixl1, ixl2, ixl3, ii_n, ii_b, ii_i, ii_s, ii_l, ii_t, ii_d, ev_ii, ev_ss, ev_nn, ev_bb, ev_tt, ev_ll, ev_tn, ev_nt, ev_in, ev_ni, ev_it, ev_ti, ev_st, ev_ts, ev_si, ev_is, ea_nn, ea_nc, ea_cn, ea_cc, st_0_0, st_0_1, st_0_2, st_0_3, st_0_4, st_1_0, st_1_1, st_1_2, st_1_3, st_1_4, st_2_0, st_2_1, st_2_2, st_2_3, st_2_4, st_3_0, st_3_1, st_3_2, st_3_3, st_3_4, st_4_0, st_4_1, st_4_2, st_4_3, st_4_4, so_0, so_1, so_2, so_3, so_4, ny] at q ⊢
      exact q
  rcases non_cases hy with ⟨ny, rfl⟩ | ⟨ny, ky⟩
  · rw [mul_nr] at q
    simp [dVar, dC, dOp, dTest, dChain, dAnd, dOr, dNot, dAndV, dOrV, dNotV, dIf, dNil, dCons, dTup, dLst, dCallL, dRaiseL, dErr, dThunk, dNeg, dNoPart, dPart, dSl, dCB, dIsi, dNext, dSeq, dBreak, dCont, dIfS, dRet, dRetN, dDrop, dSet, dList, dLst', dSetO, dApp, dSetIx, dAsg, dPar, gNm, gNl, gCn, gTp, dSeqOf, dRange1, dRange2, dEnum, dZip, dFor, dForL, dYes, retD, startD, outD, F1_at, F2_at, F3_at, ex2, ex3, sizeLine_eq, rAddD, rMulD, rCmpD, rEqD', rIsD, rInD', rIxD, rLenD, rI0, rDivD, rModD, rPowD, rSubD, ty_n, ty_b, ty_i, ty_s, ty_l, ty_t, ty_d, it_n, it_b, it_i, it_s, it_l, it_t, it_d, fl_n, fl_b, fl_i, fl_s, nn_n, nn_b, nn_i, nn_s, nn_l, nn_t, ln_l, ln_t, ix0, ix1, ix2, ixl1, ixl2, ixl3, ii_n, ii_b, ii_i, ii_s, ii_l, ii_t, ii_d, ev_ii, ev_ss, ev_nn, ev_bb, ev_tt, ev_ll, ev_tn, ev_nt, ev_in, ev_ni, ev_it, ev_ti, ev_st, ev_ts, ev_si, ev_is, ea_nn, ea_nc, ea_cn, ea_cc, st_0_0, st_0_1, st_0_2, st_0_3, st_0_4, st_1_0, st_1_1, st_1_2, st_1_3, st_1_4, st_2_0, st_2_1, st_2_2, st_2_3, st_2_4, st_3_0, st_3_1, st_3_2, st_3_3, st_3_4, st_4_0, st_4_1, st_4_2, st_4_3, st_4_4, so_0, so_1, so_2, so_3, so_4, nx] at q ⊢
    exact q
  by_cases c : W = .ch
  · subst c
    obtain ⟨p, s, rfl, p1, s1, _⟩ := num_fr kx
    obtain ⟨r, t, rfl, r1, t1, _⟩ := num_fr ky
    obtain ⟨bp, bs⟩ := bx
    obtain ⟨br, bt⟩ := bY
    have m1 := log_mul (nb_le bp (by decide)) (nb_le bt (by decide))
    have m2 := log_mul (nb_le br (by decide)) (nb_le bs (by decide))
    have m3 := log_mul (nb_le bs (by decide)) (nb_le bt (by decide))
    have m4 := log_mul (nb_le bp (by decide)) (nb_le br (by decide))
    have pos := Int.mul_pos s1 t1
    have num : 0 < p * t + r * s := by
      have := Int.mul_pos p1 t1
      have := Int.mul_pos r1 s1
      omega
    have numM := Int.mul_pos p1 r1
    have bn : (s * t).natAbs < 2 ^ 8000 := nb_le (nb_mul bs bt) (by decide)
    simp [dVar, dC, dOp, dTest, dChain, dAnd, dOr, dNot, dAndV, dOrV, dNotV, dIf, dNil, dCons, dTup, dLst, dCallL, dRaiseL, dErr, dThunk, dNeg, dNoPart, dPart, dSl, dCB, dIsi, dNext, dSeq, dBreak, dCont, dIfS, dRet, dRetN, dDrop, dSet, dList, dLst', dSetO, dApp, dSetIx, dAsg, dPar, gNm, gNl, gCn, gTp, dSeqOf, dRange1, dRange2, dEnum, dZip, dFor, dForL, dYes, retD, startD, outD, F1_at, F2_at, F3_at, ex2, ex3, sizeLine_eq, rAddD, rMulD, rCmpD, rEqD', rIsD, rInD', rIxD, rLenD, rI0, rDivD, rModD, rPowD, rSubD, ty_n, ty_b, ty_i, ty_s, ty_l, ty_t, ty_d, it_n, it_b, it_i, it_s, it_l, it_t, it_d, fl_n, fl_b, fl_i, fl_s, nn_n, nn_b, nn_i, nn_s, nn_l, nn_t, ln_l, ln_t, ix0, ix1, ix2, ixl1, ixl2, ixl3, ii_n, ii_b, ii_i, ii_s, ii_l, ii_t, ii_d, ev_ii, ev_ss, ev_nn, ev_bb, ev_tt, ev_ll, ev_tn, ev_nt, ev_in, ev_ni, ev_it, ev_ti, ev_st, ev_ts, ev_si, ev_is, ea_nn, ea_nc, ea_cn, ea_cc, st_0_0, st_0_1, st_0_2, st_0_3, st_0_4, st_1_0, st_1_1, st_1_2, st_1_3, st_1_4, st_2_0, st_2_1, st_2_2, st_2_3, st_2_4, st_3_0, st_3_1, st_3_2, st_3_3, st_3_4, st_4_0, st_4_1, st_4_2, st_4_3, st_4_4, so_0, so_1, so_2, so_3, so_4, shp, PyData.canLay0, PyData.canLayAll0, PyData.depth, PyData.depthAll, Way.d, mulD, m1, m2, m3, m4] at q ⊢
    exact ⟨(p * r, s * t), rfl, ⟨pos, bn⟩, q⟩
  · obtain ⟨i, rfl⟩ := num_int c kx
    obtain ⟨j, rfl⟩ := num_int c ky
    have m5 := log_mul (nb_le (show i.natAbs < 2 ^ 2000 from bx) (by decide)) (nb_le (show j.natAbs < 2 ^ 2000 from bY) (by decide))
    cases W with
    | ch => exact absurd rfl c
    | lf m =>
      have hm : 0 < m := by
        have := hW.1
        omega
      simp [dVar, dC, dOp, dTest, dChain, dAnd, dOr, dNot, dAndV, dOrV, dNotV, dIf, dNil, dCons, dTup, dLst, dCallL, dRaiseL, dErr, dThunk, dNeg, dNoPart, dPart, dSl, dCB, dIsi, dNext, dSeq, dBreak, dCont, dIfS, dRet, dRetN, dDrop, dSet, dList, dLst', dSetO, dApp, dSetIx, dAsg, dPar, gNm, gNl, gCn, gTp, dSeqOf, dRange1, dRange2, dEnum, dZip, dFor, dForL, dYes, retD, startD, outD, F1_at, F2_at, F3_at, ex2, ex3, sizeLine_eq, rAddD, rMulD, rCmpD, rEqD', rIsD, rInD', rIxD, rLenD, rI0, rDivD, rModD, rPowD, rSubD, ty_n, ty_b, ty_i, ty_s, ty_l, ty_t, ty_d, it_n, it_b, it_i, it_s, it_l, it_t, it_d, fl_n, fl_b, fl_i, fl_s, nn_n, nn_b, nn_i, nn_s, nn_l, nn_t, ln_l, ln_t, ix0, ix1, ix2, ixl1, ixl2, ixl3, ii_n, ii_b, ii_i, ii_s, ii_l, ii_t, ii_d, ev_ii, ev_ss, ev_nn, ev_bb, ev_tt, ev_ll, ev_tn, ev_nt, ev_in, ev_ni, ev_it, ev_ti, ev_st, ev_ts, ev_si, ev_is, ea_nn, ea_nc, ea_cn, ea_cc, st_0_0, st_0_1, st_0_2, st_0_3, st_0_4, st_1_0, st_1_1, st_1_2, st_1_3, st_1_4, st_2_0, st_2_1, st_2_2, st_2_3, st_2_4, st_3_0, st_3_1, st_3_2, st_3_3, st_3_4, st_4_0, st_4_1, st_4_2, st_4_3, st_4_4, so_0, so_1, so_2, so_3, so_4, shp, PyData.canLay0, PyData.canLayAll0, PyData.depth, PyData.depthAll, Way.d, mulD, mulI, m5] at q ⊢
      exact ⟨(m, i * j), rfl, hW, q⟩
    | _ => simp [dVar, dC, dOp, dTest, dChain, dAnd, dOr, dNot, dAndV, dOrV, dNotV, dIf, dNil, dCons, dTup, dLst, dCallL, dRaiseL, dErr, dThunk, dNeg, dNoPart, dPart, dSl, dCB, dIsi, dNext, dSeq, dBreak, dCont, dIfS, dRet, dRetN, dDrop, dSet, dList, dLst', dSetO, dApp, dSetIx, dAsg, dPar, gNm, gNl, gCn, gTp, dSeqOf, dRange1, dRange2, dEnum, dZip, dFor, dForL, dYes, retD, startD, outD, F1_at, F2_at, F3_at, ex2, ex3, sizeLine_eq, rAddD, rMulD, rCmpD, rEqD', rIsD, rInD', rIxD, rLenD, rI0, rDivD, rModD, rPowD, rSubD, ty_n, ty_b, ty_i, ty_s, ty_l, ty_t, ty_d, it_n, it_b, it_i, it_s, it_l, it_t, it_d, fl_n, fl_b, fl_i, fl_s, nn_n, nn_b, nn_i, nn_s, nn_l, nn_t, ln_l, ln_t, ix0, ix1, ix2, ixl1, ixl2, ixl3, ii_n, ii_b, ii_i, ii_s, ii_l, ii_t, ii_d, ev_ii, ev_ss, ev_nn, ev_bb, ev_tt, ev_ll, ev_tn, ev_nt, ev_in, ev_ni, ev_it, ev_ti, ev_st, ev_ts, ev_si, ev_is, ea_nn, ea_nc, ea_cn, ea_cc, st_0_0, st_0_1, st_0_2, st_0_3, st_0_4, st_1_0, st_1_1, st_1_2, st_1_3, st_1_4, st_2_0, st_2_1, st_2_2, st_2_3, st_2_4, st_3_0, st_3_1, st_3_2, st_3_3, st_3_4, st_4_0, st_4_1, st_4_2, st_4_3, st_4_4, so_0, so_1, so_2, so_3, so_4, shp, PyData.canLay0, PyData.canLayAll0, PyData.depth, PyData.depthAll, Way.d, mulD, mulI, m5] at q ⊢ <;> exact q
end LK
end
section
set_option Elab.async false
set_option linter.all false
set_option maxRecDepth 100000
set_option maxHeartbeats 4000000
set_option autoImplicit false
namespace LK
open PySem PySem.Spec PyProof.Rows L2 PL
theorem isWay_d {x : D} (h : isWay x = true) : ∃ W : Way, W.ok ∧ x = W.d ∧ toWay x = W := by
  unfold isWay at h
  split at h
  · rename_i s r
    by_cases hs : s = PySem.Str.ofString "left"
    · subst hs
      rcases r with _ | ⟨b, _ | ⟨c, r⟩⟩
      · simp at h
      · cases b <;> simp [within] at h
        rename_i m
        exact ⟨.lf m, h, rfl, by simp [toWay]⟩
      · simp at h
    · rcases r with _ | ⟨b, r⟩
      · simp [hs] at h
        rcases h with h | h | h | h <;> subst h
        · exact ⟨.wh, trivial, rfl, by simp [toWay, st_0_0, st_0_1, st_0_2, st_0_3, st_0_4, st_1_0, st_1_1, st_1_2, st_1_3, st_1_4, st_2_0, st_2_1, st_2_2, st_2_3, st_2_4, st_3_0, st_3_1, st_3_2, st_3_3, st_3_4, st_4_0, st_4_1, st_4_2, st_4_3, st_4_4, so_0, so_1, so_2, so_3, so_4]⟩
        · exact ⟨.ct, trivial, rfl, by simp [toWay, st_0_0, st_0_1, st_0_2, st_0_3, st_0_4, st_1_0, st_1_1, st_1_2, st_1_3, st_1_4, st_2_0, st_2_1, st_2_2, st_2_3, st_2_4, st_3_0, st_3_1, st_3_2, st_3_3, st_3_4, st_4_0, st_4_1, st_4_2, st_4_3, st_4_4, so_0, so_1, so_2, so_3, so_4]⟩
        · exact ⟨.ch, trivial, rfl, by simp [toWay, st_0_0, st_0_1, st_0_2, st_0_3, st_0_4, st_1_0, st_1_1, st_1_2, st_1_3, st_1_4, st_2_0, st_2_1, st_2_2, st_2_3, st_2_4, st_3_0, st_3_1, st_3_2, st_3_3, st_3_4, st_4_0, st_4_1, st_4_2, st_4_3, st_4_4, so_0, so_1, so_2, so_3, so_4]⟩
        · exact ⟨.co, trivial, rfl, by simp [toWay, st_0_0, st_0_1, st_0_2, st_0_3, st_0_4, st_1_0, st_1_1, st_1_2, st_1_3, st_1_4, st_2_0, st_2_1, st_2_2, st_2_3, st_2_4, st_3_0, st_3_1, st_3_2, st_3_3, st_3_4, st_4_0, st_4_1, st_4_2, st_4_3, st_4_4, so_0, so_1, so_2, so_3, so_4]⟩
      · simp [hs] at h
  · cases h
theorem shp_d {W : Way} : shp W.d := by
  cases W <;> simp [Way.d, shp, PyData.canLay0, PyData.canLayAll0, PyData.depth, PyData.depthAll, st_0_0, st_0_1, st_0_2, st_0_3, st_0_4, st_1_0, st_1_1, st_1_2, st_1_3, st_1_4, st_2_0, st_2_1, st_2_2, st_2_3, st_2_4, st_3_0, st_3_1, st_3_2, st_3_3, st_3_4, st_4_0, st_4_1, st_4_2, st_4_3, st_4_4, so_0, so_1, so_2, so_3, so_4]
theorem way_d {W : Way} (h : W.ok) : isWay W.d = true ∧ toWay W.d = W := by
  cases W with
  | lf m => exact ⟨by simp [isWay, Way.d, within]; exact h, by simp [toWay, Way.d]⟩
  | _ => exact ⟨by simp [isWay, Way.d, st_0_0, st_0_1, st_0_2, st_0_3, st_0_4, st_1_0, st_1_1, st_1_2, st_1_3, st_1_4, st_2_0, st_2_1, st_2_2, st_2_3, st_2_4, st_3_0, st_3_1, st_3_2, st_3_3, st_3_4, st_4_0, st_4_1, st_4_2, st_4_3, st_4_4, so_0, so_1, so_2, so_3, so_4], by simp [toWay, Way.d, st_0_0, st_0_1, st_0_2, st_0_3, st_0_4, st_1_0, st_1_1, st_1_2, st_1_3, st_1_4, st_2_0, st_2_1, st_2_2, st_2_3, st_2_4, st_3_0, st_3_1, st_3_2, st_3_3, st_3_4, st_4_0, st_4_1, st_4_2, st_4_3, st_4_4, so_0, so_1, so_2, so_3, so_4]⟩
def okB (W : Way) (a : D) : Bool := isNonD a || isNum W a
theorem okB_iff {W : Way} {a : D} : okB W a = true ↔ okNum W a := by
  unfold okB okNum
  cases a <;> simp [isNonD]
def refO (ca : Str → Addr) (x a b : D) (r : D) : Out := if isWay x = true then (if okB (toWay x) a = true then (if okB (toWay x) b = true then .ok r else .error (ca "BadNumber", some ("number", b))) else .error (ca "BadNumber", some ("number", a))) else .error (ca "BadWay", some ("way", x))
def sp_way_one (ca : Str → Addr) : SpD := F1 shp (fun x => if isWay x = true then .ok (one (toWay x)) else .error (ca "BadWay", some ("way", x)))
theorem mo_way_one {ca : Str → Addr} : SpMono (sp_way_one ca) := F1.mo
theorem sc_way_one : FnScope ["way"] ["way"] (defScope s_way_one) := ⟨rfl, rfl, rfl, by decide +kernel, rfl, by decide +kernel, by decide +kernel⟩
theorem ok_way_one {w : World} {K : PySem.W.Frag} {mg : Str → Option Value} {base : Heap} {ca : Str → Addr} (T : Txt K mg ca) (h_need_way : DOk prog w K mg base 4 "need_way" ["way"] (sp_need_way ca)) (h_one_in : DOk prog w K mg base 1 "one_in" ["way"] (sp_one_in ca)) : DOk prog w K mg base 5 "way_one" ["way"] (sp_way_one ca) := by
  refine dok T.a_way_one sc_way_one F1.len fun f cdv A outer s S F H E hr => ⟨_, (pxs_cons (pxs_ret (px_callL lets_cx h_one_in mo_one_in (hr.mono (by decide)) (pxa_cons (px_callL lets_cx h_need_way mo_need_way (hr.mono (by decide)) (pxa_cons (px_var 0 (pv 0)) pxa_nil)) pxa_nil))) pxs_nil), ?_⟩
  rintro ds n Q ⟨x, rfl, hx, q⟩
  dsimp only at hx q
  by_cases h : isWay x = true
  · obtain ⟨W, hW, rfl, e⟩ := isWay_d h
    simp [dVar, dC, dOp, dTest, dChain, dAnd, dOr, dNot, dAndV, dOrV, dNotV, dIf, dNil, dCons, dTup, dLst, dCallL, dRaiseL, dErr, dThunk, dNeg, dNoPart, dPart, dSl, dCB, dIsi, dNext, dSeq, dBreak, dCont, dIfS, dRet, dRetN, dDrop, dSet, dList, dLst', dSetO, dApp, dSetIx, dAsg, dPar, gNm, gNl, gCn, gTp, dSeqOf, dRange1, dRange2, dEnum, dZip, dFor, dForL, dYes, retD, startD, outD, F1_at, F2_at, F3_at, ex2, ex3, sizeLine_eq, rAddD, rMulD, rCmpD, rEqD', rIsD, rInD', rIxD, rLenD, rI0, rDivD, rModD, rPowD, rSubD, ty_n, ty_b, ty_i, ty_s, ty_l, ty_t, ty_d, it_n, it_b, it_i, it_s, it_l, it_t, it_d, fl_n, fl_b, fl_i, fl_s, nn_n, nn_b, nn_i, nn_s, nn_l, nn_t, ln_l, ln_t, ix0, ix1, ix2, ixl1, ixl2, ixl3, ii_n, ii_b, ii_i, ii_s, ii_l, ii_t, ii_d, ev_ii, ev_ss, ev_nn, ev_bb, ev_tt, ev_ll, ev_tn, ev_nt, ev_in, ev_ni, ev_it, ev_ti, ev_st, ev_ts, ev_si, ev_is, ea_nn, ea_nc, ea_cn, ea_cc, st_0_0, st_0_1, st_0_2, st_0_3, st_0_4, st_1_0, st_1_1, st_1_2, st_1_3, st_1_4, st_2_0, st_2_1, st_2_2, st_2_3, st_2_4, st_3_0, st_3_1, st_3_2, st_3_3, st_3_4, st_4_0, st_4_1, st_4_2, st_4_3, st_4_4, so_0, so_1, so_2, so_3, so_4, sp_need_way, h, e] at hx q ⊢
    exact ⟨hx, W, rfl, hW, q⟩
  · simp [dVar, dC, dOp, dTest, dChain, dAnd, dOr, dNot, dAndV, dOrV, dNotV, dIf, dNil, dCons, dTup, dLst, dCallL, dRaiseL, dErr, dThunk, dNeg, dNoPart, dPart, dSl, dCB, dIsi, dNext, dSeq, dBreak, dCont, dIfS, dRet, dRetN, dDrop, dSet, dList, dLst', dSetO, dApp, dSetIx, dAsg, dPar, gNm, gNl, gCn, gTp, dSeqOf, dRange1, dRange2, dEnum, dZip, dFor, dForL, dYes, retD, startD, outD, F1_at, F2_at, F3_at, ex2, ex3, sizeLine_eq, rAddD, rMulD, rCmpD, rEqD', rIsD, rInD', rIxD, rLenD, rI0, rDivD, rModD, rPowD, rSubD, ty_n, ty_b, ty_i, ty_s, ty_l, ty_t, ty_d, it_n, it_b, it_i, it_s, it_l, it_t, it_d, fl_n, fl_b, fl_i, fl_s, nn_n, nn_b, nn_i, nn_s, nn_l, nn_t, ln_l, ln_t, ix0, ix1, ix2, ixl1, ixl2, ixl3, ii_n, ii_b, ii_i, ii_s, ii_l, ii_t, ii_d, ev_ii, ev_ss, ev_nn, ev_bb, ev_tt, ev_ll, ev_tn, ev_nt, ev_in, ev_ni, ev_it, ev_ti, ev_st, ev_ts, ev_si, ev_is, ea_nn, ea_nc, ea_cn, ea_cc, st_0_0, st_0_1, st_0_2, st_0_3, st_0_4, st_1_0, st_1_1, st_1_2, st_1_3, st_1_4, st_2_0, st_2_1, st_2_2, st_2_3, st_2_4, st_3_0, st_3_1, st_3_2, st_3_3, st_3_4, st_4_0, st_4_1, st_4_2, st_4_3, st_4_4, so_0, so_1, so_2, so_3, so_4, sp_need_way, h] at hx q ⊢
    exact ⟨hx, q⟩
def sp_is_way_number (ca : Str → Addr) : SpD := F2 (fun x v => shp x ∧ shp v) (fun x v => if isWay x = true then .ok (.bool (isNum (toWay x) v)) else .error (ca "BadWay", some ("way", x)))
theorem mo_is_way_number {ca : Str → Addr} : SpMono (sp_is_way_number ca) := F2.mo
theorem sc_is_way_number : FnScope ["way", "value"] ["way", "value"] (defScope s_is_way_number) := ⟨rfl, rfl, rfl, by decide +kernel, rfl, by decide +kernel, by decide +kernel⟩
theorem ok_is_way_number {w : World} {K : PySem.W.Frag} {mg : Str → Option Value} {base : Heap} {ca : Str → Addr} (T : Txt K mg ca) (h_is_number_in : DOk prog w K mg base 3 "is_number_in" ["way", "value"] (sp_is_number_in ca)) (h_need_way : DOk prog w K mg base 4 "need_way" ["way"] (sp_need_way ca)) : DOk prog w K mg base 5 "is_way_number" ["way", "value"] (sp_is_way_number ca) := by
  refine dok T.a_is_way_number sc_is_way_number F2.len fun f cdv A outer s S F H E hr => ⟨_, (pxs_cons (pxs_ret (px_callL lets_cx h_is_number_in mo_is_number_in (hr.mono (by decide)) (pxa_cons (px_callL lets_cx h_need_way mo_need_way (hr.mono (by decide)) (pxa_cons (px_var 0 (pv 0)) pxa_nil)) (pxa_cons (px_var 1 (pv 1)) pxa_nil)))) pxs_nil), ?_⟩
  rintro ds n Q ⟨x, y, rfl, hx, q⟩
  dsimp only at hx q
  by_cases h : isWay x = true
  · obtain ⟨W, hW, rfl, e⟩ := isWay_d h
    simp [dVar, dC, dOp, dTest, dChain, dAnd, dOr, dNot, dAndV, dOrV, dNotV, dIf, dNil, dCons, dTup, dLst, dCallL, dRaiseL, dErr, dThunk, dNeg, dNoPart, dPart, dSl, dCB, dIsi, dNext, dSeq, dBreak, dCont, dIfS, dRet, dRetN, dDrop, dSet, dList, dLst', dSetO, dApp, dSetIx, dAsg, dPar, gNm, gNl, gCn, gTp, dSeqOf, dRange1, dRange2, dEnum, dZip, dFor, dForL, dYes, retD, startD, outD, F1_at, F2_at, F3_at, ex2, ex3, sizeLine_eq, rAddD, rMulD, rCmpD, rEqD', rIsD, rInD', rIxD, rLenD, rI0, rDivD, rModD, rPowD, rSubD, ty_n, ty_b, ty_i, ty_s, ty_l, ty_t, ty_d, it_n, it_b, it_i, it_s, it_l, it_t, it_d, fl_n, fl_b, fl_i, fl_s, nn_n, nn_b, nn_i, nn_s, nn_l, nn_t, ln_l, ln_t, ix0, ix1, ix2, ixl1, ixl2, ixl3, ii_n, ii_b, ii_i, ii_s, ii_l, ii_t, ii_d, ev_ii, ev_ss, ev_nn, ev_bb, ev_tt, ev_ll, ev_tn, ev_nt, ev_in, ev_ni, ev_it, ev_ti, ev_st, ev_ts, ev_si, ev_is, ea_nn, ea_nc, ea_cn, ea_cc, st_0_0, st_0_1, st_0_2, st_0_3, st_0_4, st_1_0, st_1_1, st_1_2, st_1_3, st_1_4, st_2_0, st_2_1, st_2_2, st_2_3, st_2_4, st_3_0, st_3_1, st_3_2, st_3_3, st_3_4, st_4_0, st_4_1, st_4_2, st_4_3, st_4_4, so_0, so_1, so_2, so_3, so_4, sp_need_way, h, e] at hx q ⊢
    exact ⟨hx.1, (W, y), rfl, ⟨hW, hx.2⟩, q⟩
  · simp [dVar, dC, dOp, dTest, dChain, dAnd, dOr, dNot, dAndV, dOrV, dNotV, dIf, dNil, dCons, dTup, dLst, dCallL, dRaiseL, dErr, dThunk, dNeg, dNoPart, dPart, dSl, dCB, dIsi, dNext, dSeq, dBreak, dCont, dIfS, dRet, dRetN, dDrop, dSet, dList, dLst', dSetO, dApp, dSetIx, dAsg, dPar, gNm, gNl, gCn, gTp, dSeqOf, dRange1, dRange2, dEnum, dZip, dFor, dForL, dYes, retD, startD, outD, F1_at, F2_at, F3_at, ex2, ex3, sizeLine_eq, rAddD, rMulD, rCmpD, rEqD', rIsD, rInD', rIxD, rLenD, rI0, rDivD, rModD, rPowD, rSubD, ty_n, ty_b, ty_i, ty_s, ty_l, ty_t, ty_d, it_n, it_b, it_i, it_s, it_l, it_t, it_d, fl_n, fl_b, fl_i, fl_s, nn_n, nn_b, nn_i, nn_s, nn_l, nn_t, ln_l, ln_t, ix0, ix1, ix2, ixl1, ixl2, ixl3, ii_n, ii_b, ii_i, ii_s, ii_l, ii_t, ii_d, ev_ii, ev_ss, ev_nn, ev_bb, ev_tt, ev_ll, ev_tn, ev_nt, ev_in, ev_ni, ev_it, ev_ti, ev_st, ev_ts, ev_si, ev_is, ea_nn, ea_nc, ea_cn, ea_cc, st_0_0, st_0_1, st_0_2, st_0_3, st_0_4, st_1_0, st_1_1, st_1_2, st_1_3, st_1_4, st_2_0, st_2_1, st_2_2, st_2_3, st_2_4, st_3_0, st_3_1, st_3_2, st_3_3, st_3_4, st_4_0, st_4_1, st_4_2, st_4_3, st_4_4, so_0, so_1, so_2, so_3, so_4, sp_need_way, h] at hx q ⊢
    exact ⟨hx.1, q⟩
def sp_need_numbers (ca : Str → Addr) : SpD := GS (fun a : D × D × D => [a.1, .tuple [a.2.1, a.2.2]]) (fun a => shp a.1 ∧ shp a.2.1 ∧ shp a.2.2) (fun a => refO ca a.1 a.2.1 a.2.2 .none)
theorem mo_need_numbers {ca : Str → Addr} : SpMono (sp_need_numbers ca) := GS.mo
theorem sc_need_numbers : FnScope ["way", "numbers", "one"] ["way", "numbers"] (defScope s_need_numbers) := ⟨rfl, rfl, rfl, by decide +kernel, rfl, by decide +kernel, by decide +kernel⟩
theorem ok_need_numbers {w : World} {K : PySem.W.Frag} {mg : Str → Option Value} {base : Heap} {ca : Str → Addr} (T : Txt K mg ca) (h_is_number_in : DOk prog w K mg base 3 "is_number_in" ["way", "value"] (sp_is_number_in ca)) (h_need_way : DOk prog w K mg base 4 "need_way" ["way"] (sp_need_way ca)) : DOk prog w K mg base 5 "need_numbers" ["way", "numbers"] (sp_need_numbers ca) := by
  refine dok T.a_need_numbers sc_need_numbers (GS.len fun _ => rfl) fun f cdv A outer s S F H E hr => ⟨_, (pxs_cons (pxs_expr (px_callL lets_cx h_need_way mo_need_way (hr.mono (by decide)) (pxa_cons (px_var 0 (pv 0)) pxa_nil))) (pxs_cons (pxs_for passes_cx rfl (pxi_seq (px_var 1 (pv 1))) (pxg_name 2 sc_need_numbers.nd rfl (.inl rfl)) (pxs_cons (pxs_if (PXW.pt (pxw_and (pxt_cmp od_isnot (px_var 2 (pv 2)) (px_c pe_non fun _ _ => .non) (nomark _)) (pxw_and1 (pxt_not (pxt_val (px_callL lets_cx h_is_number_in mo_is_number_in (hr.mono (by decide)) (pxa_cons (px_var 0 (pv 0)) (pxa_cons (px_var 2 (pv 2)) pxa_nil)))))))) (pxs_cons (pxs_raiseL lets_cx rfl T.b_BadNumber hr (px_var 2 (pv 2))) pxs_nil) pxs_nil) pxs_nil)) pxs_nil)), ?_⟩
  rintro ds n Q ⟨⟨x, a, b⟩, rfl, ⟨hx, ha, hb⟩, q⟩
  dsimp only at hx ha hb q ⊢
  unfold refO at q
  by_cases h : isWay x = true
  · obtain ⟨W, hW, rfl, e⟩ := isWay_d h
    rw [if_pos h, e] at q
    have num : ∀ {y : D} {n : Nat} {Q' : Nat → D → Prop} {E' : ED}, shp y → Q' n (.bool (isNum W y)) → sp_is_number_in ca [W.d, y] n Q' E' := fun hy q => ⟨(W, _), rfl, ⟨hW, hy⟩, q⟩
    simp [dVar, dC, dOp, dTest, dChain, dAnd, dOr, dNot, dAndV, dOrV, dNotV, dIf, dNil, dCons, dTup, dLst, dCallL, dRaiseL, dErr, dThunk, dNeg, dNoPart, dPart, dSl, dCB, dIsi, dNext, dSeq, dBreak, dCont, dIfS, dRet, dRetN, dDrop, dSet, dList, dLst', dSetO, dApp, dSetIx, dAsg, dPar, gNm, gNl, gCn, gTp, dSeqOf, dRange1, dRange2, dEnum, dZip, dFor, dForL, dYes, retD, startD, outD, F1_at, F2_at, F3_at, ex2, ex3, sizeLine_eq, rAddD, rMulD, rCmpD, rEqD', rIsD, rInD', rIxD, rLenD, rI0, rDivD, rModD, rPowD, rSubD, ty_n, ty_b, ty_i, ty_s, ty_l, ty_t, ty_d, it_n, it_b, it_i, it_s, it_l, it_t, it_d, fl_n, fl_b, fl_i, fl_s, nn_n, nn_b, nn_i, nn_s, nn_l, nn_t, ln_l, ln_t, ix0, ix1, ix2, ixl1, ixl2, ixl3, ii_n, ii_b, ii_i, ii_s, ii_l, ii_t, ii_d, ev_ii, ev_ss, ev_nn, ev_bb, ev_tt, ev_ll, ev_tn, ev_nt, ev_in, ev_ni, ev_it, ev_ti, ev_st, ev_ts, ev_si, ev_is, ea_nn, ea_nc, ea_cn, ea_cc, st_0_0, st_0_1, st_0_2, st_0_3, st_0_4, st_1_0, st_1_1, st_1_2, st_1_3, st_1_4, st_2_0, st_2_1, st_2_2, st_2_3, st_2_4, st_3_0, st_3_1, st_3_2, st_3_3, st_3_4, st_4_0, st_4_1, st_4_2, st_4_3, st_4_4, so_0, so_1, so_2, so_3, so_4, sp_need_way, h] at hx q ⊢
    refine ⟨hx, ?_⟩
    cases na : isNonD a <;> cases nb : isNonD b <;> cases ka : isNum W a <;> cases kb : isNum W b <;> simp [okB, na, nb, ka, kb] at q ⊢ <;>
      first
        | exact q
        | (refine num ha ?_; simp [ka, kb, na, nb]; first | exact q | (refine num hb ?_; simp [kb]; exact q))
        | (refine num hb ?_; simp [kb]; exact q)
  · simp [dVar, dC, dOp, dTest, dChain, dAnd, dOr, dNot, dAndV, dOrV, dNotV, dIf, dNil, dCons, dTup, dLst, dCallL, dRaiseL, dErr, dThunk, dNeg, dNoPart, dPart, dSl, dCB, dIsi, dNext, dSeq, dBreak, dCont, dIfS, dRet, dRetN, dDrop, dSet, dList, dLst', dSetO, dApp, dSetIx, dAsg, dPar, gNm, gNl, gCn, gTp, dSeqOf, dRange1, dRange2, dEnum, dZip, dFor, dForL, dYes, retD, startD, outD, F1_at, F2_at, F3_at, ex2, ex3, sizeLine_eq, rAddD, rMulD, rCmpD, rEqD', rIsD, rInD', rIxD, rLenD, rI0, rDivD, rModD, rPowD, rSubD, ty_n, ty_b, ty_i, ty_s, ty_l, ty_t, ty_d, it_n, it_b, it_i, it_s, it_l, it_t, it_d, fl_n, fl_b, fl_i, fl_s, nn_n, nn_b, nn_i, nn_s, nn_l, nn_t, ln_l, ln_t, ix0, ix1, ix2, ixl1, ixl2, ixl3, ii_n, ii_b, ii_i, ii_s, ii_l, ii_t, ii_d, ev_ii, ev_ss, ev_nn, ev_bb, ev_tt, ev_ll, ev_tn, ev_nt, ev_in, ev_ni, ev_it, ev_ti, ev_st, ev_ts, ev_si, ev_is, ea_nn, ea_nc, ea_cn, ea_cc, st_0_0, st_0_1, st_0_2, st_0_3, st_0_4, st_1_0, st_1_1, st_1_2, st_1_3, st_1_4, st_2_0, st_2_1, st_2_2, st_2_3, st_2_4, st_3_0, st_3_1, st_3_2, st_3_3, st_3_4, st_4_0, st_4_1, st_4_2, st_4_3, st_4_4, so_0, so_1, so_2, so_3, so_4, sp_need_way, h] at hx q ⊢
    exact ⟨hx, q⟩
def sp_added_numbers (ca : Str → Addr) : SpD := GS (fun a : D × D × D => [a.1, a.2.1, a.2.2]) (fun a => shp a.1 ∧ shp a.2.1 ∧ shp a.2.2 ∧ (isWay a.1 = true → okB (toWay a.1) a.2.1 = true → okB (toWay a.1) a.2.2 = true → bd 2000 a.2.1 ∧ bd 2000 a.2.2)) (fun a => refO ca a.1 a.2.1 a.2.2 (addD (toWay a.1) a.2.1 a.2.2))
theorem mo_added_numbers {ca : Str → Addr} : SpMono (sp_added_numbers ca) := GS.mo
theorem sc_added_numbers : FnScope ["way", "one", "other"] ["way", "one", "other"] (defScope s_added_numbers) := ⟨rfl, rfl, rfl, by decide +kernel, rfl, by decide +kernel, by decide +kernel⟩
theorem ok_added_numbers {w : World} {K : PySem.W.Frag} {mg : Str → Option Value} {base : Heap} {ca : Str → Addr} (T : Txt K mg ca) (h_added_by : DOk prog w K mg base 2 "added_by" ["way", "one", "other"] (sp_added_by ca)) (h_need_numbers : DOk prog w K mg base 5 "need_numbers" ["way", "numbers"] (sp_need_numbers ca)) : DOk prog w K mg base 6 "added_numbers" ["way", "one", "other"] (sp_added_numbers ca) := by
  refine dok T.a_added_numbers sc_added_numbers (GS.len fun _ => rfl) fun f cdv A outer s S F H E hr => ⟨_, (pxs_cons (pxs_expr (px_callL lets_cx h_need_numbers mo_need_numbers (hr.mono (by decide)) (pxa_cons (px_var 0 (pv 0)) (pxa_cons (px_tup (pxa_cons (px_var 1 (pv 1)) (pxa_cons (px_var 2 (pv 2)) pxa_nil))) pxa_nil)))) (pxs_cons (pxs_ret (px_callL lets_cx h_added_by mo_added_by (hr.mono (by decide)) (pxa_cons (px_var 0 (pv 0)) (pxa_cons (px_var 1 (pv 1)) (pxa_cons (px_var 2 (pv 2)) pxa_nil))))) pxs_nil)), ?_⟩
  rintro ds n Q ⟨⟨x, a, b⟩, rfl, ⟨hx, ha, hb, hB⟩, q⟩
  dsimp only at hx ha hb hB q ⊢
  simp [dVar, dC, dOp, dTest, dChain, dAnd, dOr, dNot, dAndV, dOrV, dNotV, dIf, dNil, dCons, dTup, dLst, dCallL, dRaiseL, dErr, dThunk, dNeg, dNoPart, dPart, dSl, dCB, dIsi, dNext, dSeq, dBreak, dCont, dIfS, dRet, dRetN, dDrop, dSet, dList, dLst', dSetO, dApp, dSetIx, dAsg, dPar, gNm, gNl, gCn, gTp, dSeqOf, dRange1, dRange2, dEnum, dZip, dFor, dForL, dYes, retD, startD, outD, F1_at, F2_at, F3_at, ex2, ex3, sizeLine_eq, rAddD, rMulD, rCmpD, rEqD', rIsD, rInD', rIxD, rLenD, rI0, rDivD, rModD, rPowD, rSubD, ty_n, ty_b, ty_i, ty_s, ty_l, ty_t, ty_d, it_n, it_b, it_i, it_s, it_l, it_t, it_d, fl_n, fl_b, fl_i, fl_s, nn_n, nn_b, nn_i, nn_s, nn_l, nn_t, ln_l, ln_t, ix0, ix1, ix2, ixl1, ixl2, ixl3, ii_n, ii_b, ii_i, ii_s, ii_l, ii_t, ii_d, ev_ii, ev_ss, ev_nn, ev_bb, ev_tt, ev_ll, ev_tn, ev_nt, ev_in, ev_ni, ev_it, ev_ti, ev_st, ev_ts, ev_si, ev_is, ea_nn, ea_nc, ea_cn, ea_cc, st_0_0, st_0_1, st_0_2, st_0_3, st_0_4, st_1_0, st_1_1, st_1_2, st_1_3, st_1_4, st_2_0, st_2_1, st_2_2, st_2_3, st_2_4, st_3_0, st_3_1, st_3_2, st_3_3, st_3_4, st_4_0, st_4_1, st_4_2, st_4_3, st_4_4, so_0, so_1, so_2, so_3, so_4] at q ⊢
  refine ⟨(x, a, b), rfl, ⟨hx, ha, hb⟩, ?_⟩
  unfold refO at q ⊢
  dsimp only
  by_cases h : isWay x = true
  · obtain ⟨W, hW, rfl, e⟩ := isWay_d h
    rw [if_pos h, e] at q ⊢
    by_cases ka : okB W a = true
    · rw [if_pos ka] at q ⊢
      by_cases kb : okB W b = true
      · rw [if_pos kb] at q ⊢
        rw [e] at hB
        exact ⟨(W, a, b), rfl, ⟨hW, okB_iff.mp ka, okB_iff.mp kb, hB h ka kb⟩, q⟩
      · rw [if_neg kb] at q ⊢
        exact q
    · rw [if_neg ka] at q ⊢
      exact q
  · rw [if_neg h] at q ⊢
    exact q
def sp_multiplied_numbers (ca : Str → Addr) : SpD := GS (fun a : D × D × D => [a.1, a.2.1, a.2.2]) (fun a => shp a.1 ∧ shp a.2.1 ∧ shp a.2.2 ∧ (isWay a.1 = true → okB (toWay a.1) a.2.1 = true → okB (toWay a.1) a.2.2 = true → bd 2000 a.2.1 ∧ bd 2000 a.2.2)) (fun a => refO ca a.1 a.2.1 a.2.2 (mulD (toWay a.1) a.2.1 a.2.2))
theorem mo_multiplied_numbers {ca : Str → Addr} : SpMono (sp_multiplied_numbers ca) := GS.mo
theorem sc_multiplied_numbers : FnScope ["way", "one", "other"] ["way", "one", "other"] (defScope s_multiplied_numbers) := ⟨rfl, rfl, rfl, by decide +kernel, rfl, by decide +kernel, by decide +kernel⟩
theorem ok_multiplied_numbers {w : World} {K : PySem.W.Frag} {mg : Str → Option Value} {base : Heap} {ca : Str → Addr} (T : Txt K mg ca) (h_multiplied_by : DOk prog w K mg base 2 "multiplied_by" ["way", "one", "other"] (sp_multiplied_by ca)) (h_need_numbers : DOk prog w K mg base 5 "need_numbers" ["way", "numbers"] (sp_need_numbers ca)) : DOk prog w K mg base 6 "multiplied_numbers" ["way", "one", "other"] (sp_multiplied_numbers ca) := by
  refine dok T.a_multiplied_numbers sc_multiplied_numbers (GS.len fun _ => rfl) fun f cdv A outer s S F H E hr => ⟨_, (pxs_cons (pxs_expr (px_callL lets_cx h_need_numbers mo_need_numbers (hr.mono (by decide)) (pxa_cons (px_var 0 (pv 0)) (pxa_cons (px_tup (pxa_cons (px_var 1 (pv 1)) (pxa_cons (px_var 2 (pv 2)) pxa_nil))) pxa_nil)))) (pxs_cons (pxs_ret (px_callL lets_cx h_multiplied_by mo_multiplied_by (hr.mono (by decide)) (pxa_cons (px_var 0 (pv 0)) (pxa_cons (px_var 1 (pv 1)) (pxa_cons (px_var 2 (pv 2)) pxa_nil))))) pxs_nil)), ?_⟩
  rintro ds n Q ⟨⟨x, a, b⟩, rfl, ⟨hx, ha, hb, hB⟩, q⟩
  dsimp only at hx ha hb hB q ⊢
  simp [dVar, dC, dOp, dTest, dChain, dAnd, dOr, dNot, dAndV, dOrV, dNotV, dIf, dNil, dCons, dTup, dLst, dCallL, dRaiseL, dErr, dThunk, dNeg, dNoPart, dPart, dSl, dCB, dIsi, dNext, dSeq, dBreak, dCont, dIfS, dRet, dRetN, dDrop, dSet, dList, dLst', dSetO, dApp, dSetIx, dAsg, dPar, gNm, gNl, gCn, gTp, dSeqOf, dRange1, dRange2, dEnum, dZip, dFor, dForL, dYes, retD, startD, outD, F1_at, F2_at, F3_at, ex2, ex3, sizeLine_eq, rAddD, rMulD, rCmpD, rEqD', rIsD, rInD', rIxD, rLenD, rI0, rDivD, rModD, rPowD, rSubD, ty_n, ty_b, ty_i, ty_s, ty_l, ty_t, ty_d, it_n, it_b, it_i, it_s, it_l, it_t, it_d, fl_n, fl_b, fl_i, fl_s, nn_n, nn_b, nn_i, nn_s, nn_l, nn_t, ln_l, ln_t, ix0, ix1, ix2, ixl1, ixl2, ixl3, ii_n, ii_b, ii_i, ii_s, ii_l, ii_t, ii_d, ev_ii, ev_ss, ev_nn, ev_bb, ev_tt, ev_ll, ev_tn, ev_nt, ev_in, ev_ni, ev_it, ev_ti, ev_st, ev_ts, ev_si, ev_is, ea_nn, ea_nc, ea_cn, ea_cc, st_0_0, st_0_1, st_0_2, st_0_3, st_0_4, st_1_0, st_1_1, st_1_2, st_1_3, st_1_4, st_2_0, st_2_1, st_2_2, st_2_3, st_2_4, st_3_0, st_3_1, st_3_2, st_3_3, st_3_4, st_4_0, st_4_1, st_4_2, st_4_3, st_4_4, so_0, so_1, so_2, so_3, so_4] at q ⊢
  refine ⟨(x, a, b), rfl, ⟨hx, ha, hb⟩, ?_⟩
  unfold refO at q ⊢
  dsimp only
  by_cases h : isWay x = true
  · obtain ⟨W, hW, rfl, e⟩ := isWay_d h
    rw [if_pos h, e] at q ⊢
    by_cases ka : okB W a = true
    · rw [if_pos ka] at q ⊢
      by_cases kb : okB W b = true
      · rw [if_pos kb] at q ⊢
        rw [e] at hB
        exact ⟨(W, a, b), rfl, ⟨hW, okB_iff.mp ka, okB_iff.mp kb, hB h ka kb⟩, q⟩
      · rw [if_neg kb] at q ⊢
        exact q
    · rw [if_neg ka] at q ⊢
      exact q
  · rw [if_neg h] at q ⊢
    exact q
end LK
end
section
set_option Elab.async false
set_option linter.all false
set_option maxRecDepth 100000
set_option maxHeartbeats 4000000
set_option autoImplicit false
namespace LK
open PySem PySem.Spec PyProof.Rows L2 PL
def sp__law_mixed (ca : Str → Addr) : SpD := GR (fun a : Int × Int => [.int a.1, .int a.2]) (fun a => 0 ≤ a.2 ∧ a.2 < 2 ^ 62 ∧ a.1.natAbs < 2 ^ 70) 0 (fun _ x => ∃ k : Int, x = .int k ∧ 0 ≤ k ∧ k < 2 ^ 31)
theorem mo__law_mixed {ca : Str → Addr} : SpMono (sp__law_mixed ca) := GR.mo
theorem sc__law_mixed : FnScope ["cell", "n", "blend"] ["cell", "n"] (defScope s__law_mixed) := ⟨rfl, rfl, rfl, by decide +kernel, rfl, by decide +kernel, by decide +kernel⟩
theorem ok__law_mixed {w : World} {K : PySem.W.Frag} {mg : Str → Option Value} {base : Heap} {ca : Str → Addr} (T : Txt K mg ca) : DOk prog w K mg base 1 "_law_mixed" ["cell", "n"] (sp__law_mixed ca) := by
  refine dok T.a__law_mixed sc__law_mixed (GR.len fun _ => rfl) fun f cdv A outer s S F H E hr => ⟨_, (pxs_cons (pxs_set 2 sc__law_mixed.nd rfl (.inl rfl) (px_op od_add (px_op od_add (px_op od_mod (px_callTy cd_int rfl T.b_int rfl (pxa_cons (px_op od_mul (px_op od_mul (px_var 0 (pv 0)) (px_op od_add (px_c pe_int fun _ _ => .int _) (px_op od_mul (px_c pe_int fun _ _ => .int _) (px_var 1 (pv 1))))) (px_c pe_int fun _ _ => .int _)) pxa_nil)) (px_c pe_int fun _ _ => .int _)) (px_op od_mul (px_op od_mul (px_c pe_int fun _ _ => .int _) (px_var 1 (pv 1))) (px_var 1 (pv 1)))) (px_op od_mul (px_c pe_int fun _ _ => .int _) (px_var 1 (pv 1))))) (pxs_cons (pxs_ret (px_op od_div (px_op od_mod (px_callTy cd_int rfl T.b_int rfl (pxa_cons (px_op od_mul (px_var 2 (pv 2)) (px_c pe_int fun _ _ => .int _)) pxa_nil)) (px_c pe_int fun _ _ => .int _)) (px_c pe_int fun _ _ => .int _))) pxs_nil)), ?_⟩
  rintro ds n Q ⟨⟨c, k⟩, rfl, ⟨h1, h2, h3⟩, hw, q⟩
  dsimp only at h1 h2 h3 q ⊢
  have n1 : k.natAbs < 2 ^ 62 := by omega
  have n2 : (1 + 2 * k).natAbs < 2 ^ 64 := by omega
  have n3 : (c * (1 + 2 * k)).natAbs < 2 ^ 8000 := nb_le (nb_mul h3 n2) (by decide)
  have l0 := log_mul (i := 2) (j := k) (nb_le (A := 2) (by decide) (by decide)) (nb_le n1 (by decide))
  have l1 := log_mul (nb_le h3 (by decide)) (nb_le n2 (by decide))
  have l2 := log_mul (i := c * (1 + 2 * k)) (j := 48271) n3 (nb_le (A := 30) (by decide) (by decide))
  have l3 := log_mul (i := 7907) (j := k) (nb_le (A := 30) (by decide) (by decide)) (nb_le n1 (by decide))
  have l4 := log_mul (i := 7907 * k) (j := k) (nb_le (nb_mul (A := 30) (by decide) n1) (by decide)) (nb_le n1 (by decide))
  have l5 := log_mul (i := 104723) (j := k) (nb_le (A := 30) (by decide) (by decide)) (nb_le n1 (by decide))
  have b1 : (c * (1 + 2 * k) * 48271 % 2147483647).natAbs < 2 ^ 200 := by
    have e1 := Int.emod_nonneg (c * (1 + 2 * k) * 48271) (show (2147483647 : Int) ≠ 0 by decide)
    have e2 := Int.emod_lt_of_pos (c * (1 + 2 * k) * 48271) (show (0 : Int) < 2147483647 by decide)
    omega
  have b2 : (7907 * k * k).natAbs < 2 ^ 200 := nb_le (nb_mul (nb_mul (i := 7907) (A := 30) (by decide) n1) n1) (by decide)
  have b3 : (104723 * k).natAbs < 2 ^ 201 := nb_le (nb_mul (i := 104723) (A := 30) (by decide) n1) (by decide)
  have l6 := log_mul (i := c * (1 + 2 * k) * 48271 % 2147483647 + 7907 * k * k + 104723 * k) (j := 69621) (nb_le (nb_add (nb_add b1 b2) b3) (by decide)) (nb_le (A := 30) (by decide) (by decide))
  simp [dVar, dC, dOp, dTest, dChain, dAnd, dOr, dNot, dAndV, dOrV, dNotV, dIf, dNil, dCons, dTup, dLst, dCallL, dRaiseL, dErr, dThunk, dNeg, dNoPart, dPart, dSl, dCB, dIsi, dNext, dSeq, dBreak, dCont, dIfS, dRet, dRetN, dDrop, dSet, dList, dLst', dSetO, dApp, dSetIx, dAsg, dPar, gNm, gNl, gCn, gTp, dSeqOf, dRange1, dRange2, dEnum, dZip, dFor, dForL, dYes, retD, startD, outD, F1_at, F2_at, F3_at, ex2, ex3, sizeLine_eq, rAddD, rMulD, rCmpD, rEqD', rIsD, rInD', rIxD, rLenD, rI0, rDivD, rModD, rPowD, rSubD, ty_n, ty_b, ty_i, ty_s, ty_l, ty_t, ty_d, it_n, it_b, it_i, it_s, it_l, it_t, it_d, fl_n, fl_b, fl_i, fl_s, nn_n, nn_b, nn_i, nn_s, nn_l, nn_t, ln_l, ln_t, ix0, ix1, ix2, ixl1, ixl2, ixl3, ii_n, ii_b, ii_i, ii_s, ii_l, ii_t, ii_d, ev_ii, ev_ss, ev_nn, ev_bb, ev_tt, ev_ll, ev_tn, ev_nt, ev_in, ev_ni, ev_it, ev_ti, ev_st, ev_ts, ev_si, ev_is, ea_nn, ea_nc, ea_cn, ea_cc, st_0_0, st_0_1, st_0_2, st_0_3, st_0_4, st_1_0, st_1_1, st_1_2, st_1_3, st_1_4, st_2_0, st_2_1, st_2_2, st_2_3, st_2_4, st_3_0, st_3_1, st_3_2, st_3_3, st_3_4, st_4_0, st_4_1, st_4_2, st_4_3, st_4_4, so_0, so_1, so_2, so_3, so_4, l0, l1, l2, l3, l4, l5, l6] at q ⊢
  refine ⟨by simpa using l0, by simpa using l2, by simpa using l3, by simpa using l5, by simpa using l6, by decide +kernel, q _ _ (Nat.le_refl _) _ rfl ?_ ?_⟩
  · exact Int.ediv_nonneg (Int.emod_nonneg _ (by decide)) (by decide)
  · have e1 := Int.emod_lt_of_pos ((c * (1 + 2 * k) * 48271 % 2147483647 + 7907 * k * k + 104723 * k) * 69621) (show (0 : Int) < 2147483629 by decide)
    have e2 := Int.emod_nonneg ((c * (1 + 2 * k) * 48271 % 2147483647 + 7907 * k * k + 104723 * k) * 69621) (show (2147483629 : Int) ≠ 0 by decide)
    omega
end LK
end
section
set_option Elab.async false
set_option linter.all false
set_option maxRecDepth 100000
set_option maxHeartbeats 4000000
set_option autoImplicit false
/-! P15: the law's draw, plain. -/
namespace PL
open PySem PySem.Spec PyProof.Rows L2
def spMixed : SpD := GR (fun a : Int × Int => [.int a.1, .int a.2]) (fun a => 0 ≤ a.2 ∧ a.2 < 2 ^ 62 ∧ a.1.natAbs < 2 ^ 70) 0 (fun _ x => ∃ k : Int, x = .int k ∧ 0 ≤ k ∧ k < 2 ^ 31)
def spDraw : SpD := GR (fun l : Int => [stTok, .int l]) (fun l => 0 < l ∧ l.natAbs.log2 < 8000) 1 (fun l x => ∃ k : Int, x = .int k ∧ 0 ≤ k ∧ k < l)
abbrev kInt : List V → Hp → VK → Prop := fun xs H Q => ∃ i, xs = [V.int i] ∧ Q (V.int i) H
abbrev tI (t : TE) : TE := tCB kInt (tCons t tNil)
abbrev rMo : R2 := rI (fun _ j => 0 < j) fun i j => V.int (i % j)
abbrev rAd : R2 := rI0 fun i j => V.int (i + j)
def t_drawLast (K : PySem.W.Frag) (sp : Sp) (E : XK) : TS := tSeq (tRet (tOp rMo (tI (tCall sp [] E (tCons (tCall sp [] E (tCons (tOp rAd (tOp (rIxL K) (tDGet (tVar 0) (tC (V.str "cells"))) (tOp rMo (tI (tVar 2)) (tC (V.int 64)))) (tOp (rI CMulW fun i j => V.int (i * j)) (tC (V.int 41)) (tOp (rI CDivW fun i j => V.int (i / j)) (tVar 2) (tC (V.int 64))))) (tCons (tVar 2) tNil)))
  (tCons (tOp rAd (tVar 2) (tC (V.int 5))) tNil)))) (tVar 1))) tNext
theorem lastS {l : Int} {K : PySem.W.Frag} {mg : Str → Option Value} {S : Msh} {F H0 H : Hp} {m : Mm} {cells great : List Int} {spot n : Nat} {σ : L2.St} {E : XK} {D : Ends} (hM : S.M = some m) (ml : MLies m cells great (spot + 1) H) (h3 : cells.length = 64) (h4 : ∀ c ∈ cells, c.natAbs < 2 ^ 31)
    (hs : spot ≤ n) (hw : n + 1 < 2 ^ 60) (hl : 0 < l) (sb : Sub F H) (fm : ∀ a, S.mut a → F a = none) (th : ∀ a, S.mut a → H0 a ≠ none) (st : Step S F H0 F H) (ms : MSt S (n + 1) H) (s0 : σ[0]? = some (some (.ref m.am))) (s1 : σ[1]? = some (some (.int l))) (s2 : σ[2]? = some (some (.int spot)))
    (fin : ∀ (k : Int) (G H' : Hp), 0 ≤ k → k < l → Step S F H0 G H' → MSt S (n + 1) H' → D.rt (.int k) H') : t_drawLast K (spOf K mg spMixed) E D σ H := by
  have e1 := Int.emod_nonneg (spot : Int) (show (64 : Int) ≠ 0 by decide)
  have e2 := Int.emod_lt_of_pos (spot : Int) (show (0 : Int) < 64 by decide)
  have hi : ((spot : Int) % 64).toNat < cells.length := by omega
  have hc : cells[((spot : Int) % 64).toNat]? = some cells[((spot : Int) % 64).toNat] := List.getElem?_eq_getElem hi
  have hcb := h4 _ (List.getElem_mem hi)
  generalize hcell : cells[((spot : Int) % 64).toNat] = cell at hc hcb
  have at_ : L2.atI (cells.map V.int) ((spot : Int) % 64) = some (.int cell) := by
    unfold L2.atI L2.ixN
    rw [if_pos e1, if_pos (by rw [List.length_map, h3]; exact e2)]
    show (cells.map V.int)[((spot : Int) % 64).toNat]? = _
    rw [List.getElem?_map, hc]
    rfl
  have d1 := Int.ediv_nonneg (show (0 : Int) ≤ spot by omega) (show (0 : Int) ≤ 64 by decide)
  have d2 : (spot : Int) / 64 < 2 ^ 60 := by omega
  have inM : ∀ {c k : Int} {G1 H1 : Hp} {Q1 : VK}, Step S F H0 G1 H1 → MSt S (n + 1) H1 → 0 ≤ k → k < 2 ^ 62 → c.natAbs < 2 ^ 70 → (∀ (j : Int) (G H2 : Hp), 0 ≤ j → j < 2 ^ 31 → Step S F H0 G H2 → MSt S (n + 1) H2 → Q1 (.int j) H2) → spOf K mg spMixed [.int c, .int k] H1 Q1 E := fun {c k G1 H1 Q1} st m a b d q => by
    have fmG : ∀ a, S.mut a → G1 a = none := fun a ha => by
      cases z : G1 a with
      | none => rfl
      | some o =>
        rcases st.n a (by rw [z]; simp) with y | y
        · exact absurd (fm a ha) y
        · exact absurd y (th a ha)
    refine ⟨S, G1, _, n + 1, st.h, m, fmG, .cons (.int c) (.cons (.int k) .nil), (c, k), rfl, ⟨a, b, d⟩, by omega, fun w' x hw' hx v F' H' st' m' r' => ?_⟩
    obtain ⟨j, e, j1, j2⟩ := hx
    subst e
    cases r'
    exact q j F' H' j1 j2 (st.trans st') (m'.le (by omega))
  refine ⟨_, s0, m.am, _, rfl, ml.cells, _, s2, _, rfl, _, _, rfl, rfl, (by decide : (0 : Int) < 64), _, _, _, _, rfl, rfl, SqL.of ml.ac, at_, _, s2, _, _, rfl, rfl, ⟨by decide, by decide +kernel⟩, _, _, rfl, rfl, ?_, _, _, rfl, rfl, _, s2, ?_⟩
  · have := LK.log_mul (i := 41) (j := (spot : Int) / 64) (LK.nb_le (A := 10) (by decide) (by decide)) (LK.nb_le (A := 60) (by omega) (by decide))
    exact this
  · refine inM st ms (by omega) (by omega) ?_ fun j G H2 j1 j2 st2 m2 => ?_
    · omega
    · refine ⟨_, s2, _, _, rfl, rfl, ?_⟩
      refine inM st2 m2 (by omega) (by omega) (by omega) fun i G3 H3 i1 i2 st3 m3 => ?_
      refine ⟨_, rfl, _, s1, _, _, rfl, rfl, hl, ?_⟩
      exact fin _ G3 H3 (Int.emod_nonneg _ (by omega)) (Int.emod_lt_of_pos _ hl) st3 m3
abbrev kLen (K : PySem.W.Frag) : List V → Hp → VK → Prop := fun xs H Q => ∃ x n, xs = [x] ∧ LenV K x H n ∧ Q (.int n) H
def t_drawGreat (K : PySem.W.Frag) : TS := tSeq (tAsg (tDGet (tVar 0) (tC (V.str "great"))) (gName 3)) (tSeq (tAsg (tOp rMo (tI (tVar 2)) (tCB (kLen K) (tCons (tVar 3) tNil))) (gName 4)) (tSeq (tAsg (tOp (rIxL K) (tVar 3) (tVar 4)) (gName 5))
  (tSeq (tIfS (tTest (tOp (rI0 fun i j => V.bl (decide (j < i))) (tVar 5) (tC (V.int 0)))) (tSeq (tAsg (tOp (rI CDivW fun i j => V.int (i / j)) (tVar 5) (tVar 1)) (gSub (tVar 3) (tVar 4) rSetL)) (tSeq (tRet (tOp rMo (tI (tVar 5)) (tVar 1))) tNext)) tNext) tNext)))
def t_draw (K : PySem.W.Frag) (sp : Sp) (E : XK) : TS := tSeq (tAsg (tDGet (tVar 0) (tC (V.str "spot"))) (gName 2)) (tSeq (sDPut (tVar 0) (tC (V.str "spot")) (tOp rAd (tVar 2) (tC (V.int 1))))
  (tSeq (tIfS (tTest (tOp (rNeD K) (tDGet (tVar 0) (tC (V.str "great"))) (tLst tNil))) (t_drawGreat K) tNext) (t_drawLast K sp E)))
theorem draw_pure {K : PySem.W.Frag} {mg : Str → Option Value} {vs : List V} {H : Hp} {Q : VK} {E : XK} (h : spOf K mg spDraw vs H Q E) : t_draw K (spOf K mg spMixed) E { nx := fun _ H' => Q .non H', rt := Q } (L2.start ["m", "limit", "n", "lot", "here", "cell"] vs) H := by
  obtain ⟨S, F, ds, n, sb, ms, fm, r, l, rfl, ⟨hl, hlb⟩, hw, q⟩ := h
  obtain ⟨v1, v2, rfl, r1, r2⟩ := r.two
  cases r2
  unfold stTok at r1
  cases r1 with
  | st hM =>
    rename_i m
    obtain ⟨hne, cells, great, spot, m1, m2, h3, h4, m5, h6, h7⟩ := ms.1 _ hM
    have ml : MLies m cells great spot H := ⟨m1, m2, m5⟩
    have mutA : ∀ {b : Addr}, (b = m.am ∨ b = m.ac ∨ b = m.ag) → S.mut b := fun h => .inl ⟨m, hM, h⟩
    have nag : m.ag ≠ m.am := fun z => by rw [z, m1] at m5; cases m5
    have nac : m.ac ≠ m.am := fun z => by rw [z, m1] at m2; cases m2
    have th : ∀ a, S.mut a → H a ≠ none := fun a ha => ms.there ha
    refine ⟨_, rfl, m.am, _, rfl, ml.spot, ?_⟩
    refine ⟨_, rfl, _, _, rfl, rfl, _, rfl, m.am, _, rfl, ml.put, ?_⟩
    generalize hH1 : upd H m.am (.dK [(.inr "cells", .ref m.ac), (.inr "great", .ref m.ag), (.inr "spot", .int ((spot + 1 : Nat) : Int))]) = H1
    have st1 : Step S F H F H1 := hH1 ▸ Step.mutU sb _ (mutA (.inl rfl)) (fm _ (mutA (.inl rfl)))
    have ml1 : MLies m cells great (spot + 1) H1 := by
      subst hH1
      exact ⟨upd_same, by rw [upd_ne nac]; exact m2, by rw [upd_ne nag]; exact m5⟩
    have t1 : LamX.Tabs S.T H1 := hH1 ▸ Tabs.updN ms.2 m1 (fun _ z => by cases z) (fun _ _ => dk_ne_code)
    have ms1 : MSt S (n + 1) H1 := ml1.mst hM hne h3 h4 h6 (by omega) t1
    have fin : ∀ (k : Int) (G H' : Hp), 0 ≤ k → k < l → Step S F H G H' → MSt S (n + 1) H' → Q (.int k) H' := fun k G H' a b st m => q (n + 1) _ (Nat.le_refl _) ⟨k, rfl, a, b⟩ _ G H' st m (.int k)
    refine ⟨_, rfl, m.am, _, rfl, ml1.great, by rw [sizeLine_eq]; show 0 ≤ 16777216; decide, fun p hp => ?_⟩
    generalize hH2 : upd H1 p (.lst []) = H2
    have sb1 : Sub H1 H2 := hH2 ▸ Sub.new hp
    have st2 : Step S F H F H2 := st1.trans (hH2 ▸ Step.newO st1.h _ hp)
    have ml2 : MLies m cells great (spot + 1) H2 := ⟨sb1 _ _ ml1.am, sb1 _ _ ml1.ac, sb1 _ _ ml1.ag⟩
    have ms2 : MSt S (n + 1) H2 := ms1.sub sb1
    have rp : RpAll ⟨K, mg, S⟩ H2 (great.map V.int) (great.map PyData.int) := RpAll.ints great
    have cl : ∀ xs : List Int, PyData.canLayAll0 (xs.map PyData.int) = true := fun xs => by
      induction xs with
      | nil => rfl
      | cons x xs ih => simp only [List.map_cons, PyData.canLayAll0, PyData.canLay0, Bool.true_and]; exact ih
    have dp : ∀ xs : List Int, PyData.depthAll (xs.map PyData.int) = 0 := fun xs => by
      induction xs with
      | nil => rfl
      | cons x xs ih => simp only [List.map_cons, PyData.depthAll, PyData.depth, ih]; rfl
    have sg : shp (.list (great.map PyData.int)) := ⟨by simp [PyData.canLay0, cl], by simp [PyData.depth, dp]⟩
    have s0 : shp (.list []) := ⟨rfl, by decide⟩
    have hp2 : H2 p = some (.lst []) := hH2 ▸ upd_same
    refine ⟨.list (great.map PyData.int), .list [], .lst (SqL.of ml2.ag) (rp.dp (cl great)), .lst (SqL.of hp2) .nil, sg.shaped, s0.shaped, _, rfl, ?_⟩
    by_cases hg : great = []
    · have e : (!PyData.eqv (.list (great.map PyData.int)) (.list [])) = false := by
        subst hg
        rfl
      rw [e]
      exact lastS (D := { nx := fun _ H' => Q .non H', rt := Q }) hM ml2 h3 h4 h7 hw hl st2.h fm th st2 ms2 rfl rfl rfl fin
    · have e : (!PyData.eqv (.list (great.map PyData.int)) (.list [])) = true := by
        obtain ⟨x, xs, rfl⟩ := List.exists_cons_of_ne_nil hg
        rfl
      rw [e]
      have lg : 0 < great.length := List.length_pos_iff.mpr hg
      have lg' : 0 < (great.length : Int) := by omega
      have e1 := Int.emod_nonneg (spot : Int) (show (great.length : Int) ≠ 0 by omega)
      have e2 := Int.emod_lt_of_pos (spot : Int) lg'
      have hi : ((spot : Int) % great.length).toNat < great.length := by omega
      have hc : great[((spot : Int) % great.length).toNat]? = some great[((spot : Int) % great.length).toNat] := List.getElem?_eq_getElem hi
      generalize hcell : great[((spot : Int) % great.length).toNat] = cell at hc
      have at_ : L2.atI (great.map V.int) ((spot : Int) % great.length) = some (.int cell) := by
        unfold L2.atI L2.ixN
        rw [if_pos e1, if_pos (by rw [List.length_map]; exact e2)]
        show (great.map V.int)[((spot : Int) % great.length).toNat]? = _
        rw [List.getElem?_map, hc]
        rfl
      refine ⟨_, rfl, m.am, _, rfl, ml2.great, ?_⟩
      refine ⟨_, rfl, _, rfl, _, rfl, _, great.length, rfl, ?_, _, _, rfl, rfl, lg', ?_⟩
      · exact .inl ⟨_, SqL.of ml2.ag, (List.length_map ..).symm⟩
      refine ⟨_, rfl, _, rfl, _, _, _, _, rfl, rfl, SqL.of ml2.ag, at_, ?_⟩
      refine ⟨_, rfl, _, _, rfl, rfl, _, rfl, ?_⟩
      by_cases hpos : 0 < cell
      · rw [decide_eq_true hpos]
        refine ⟨_, rfl, _, rfl, _, _, rfl, rfl, ⟨hl, by omega⟩, ?_⟩
        have ix : L2.ixN (great.map V.int).length ((spot : Int) % great.length) = some ((spot : Int) % great.length).toNat := by
          unfold L2.ixN
          rw [if_pos e1, if_pos (by rw [List.length_map]; exact e2)]
        refine ⟨_, rfl, _, rfl, _, _, _, _, rfl, rfl, ml2.ag, ix, ?_⟩
        generalize hH3 : upd H2 m.ag (.lst ((great.map V.int).set ((spot : Int) % great.length).toNat (.int (cell / l)))) = H3
        have st3 : Step S F H F H3 := st2.trans (hH3 ▸ Step.mutU st2.h _ (mutA (.inr (.inr rfl))) (fm _ (mutA (.inr (.inr rfl)))))
        have ml3 : MLies m cells (great.set ((spot : Int) % great.length).toNat (cell / l)) (spot + 1) H3 := by
          subst hH3
          exact ⟨by rw [upd_ne (Ne.symm nag)]; exact ml2.am, by rw [upd_ne hne]; exact ml2.ac, by rw [upd_same, List.map_set]⟩
        have t3 : LamX.Tabs S.T H3 := hH3 ▸ Tabs.updN ms2.2 ml2.ag (fun _ z => by cases z) (fun _ _ => lst_ne_code)
        have ms3 : MSt S (n + 1) H3 := ml3.mst hM hne h3 h4 (by rw [List.length_set]; exact h6) (by omega) t3
        refine ⟨_, rfl, _, rfl, _, rfl, _, _, rfl, rfl, hl, ?_⟩
        exact fin _ F H3 (Int.emod_nonneg _ (by omega)) (Int.emod_lt_of_pos _ hl) st3 ms3
      · rw [decide_eq_false hpos]
        exact lastS (D := { nx := fun _ H' => Q .non H', rt := Q }) hM ml2 h3 h4 h7 hw hl st2.h fm th st2 ms2 rfl rfl rfl fin
end PL
end
section
set_option Elab.async false
set_option linter.all false
set_option maxRecDepth 100000
set_option maxHeartbeats 4000000
set_option autoImplicit false
namespace LK
open PySem PySem.Spec PyProof.Rows L2 PL
def sp__law_draw (ca : Str → Addr) : SpD := spDraw
theorem mo__law_draw {ca : Str → Addr} : SpMono (sp__law_draw ca) := GR.mo
theorem sc__law_draw : FnScope ["m", "limit", "n", "lot", "here", "cell"] ["m", "limit"] (defScope s__law_draw) := ⟨rfl, rfl, rfl, by decide +kernel, rfl, by decide +kernel, by decide +kernel⟩
theorem ok__law_draw {w : World} {K : PySem.W.Frag} {mg : Str → Option Value} {base : Heap} {ca : Str → Addr} (T : Txt K mg ca) (h__law_mixed : DOk prog w K mg base 1 "_law_mixed" ["cell", "n"] (sp__law_mixed ca)) : DOk prog w K mg base 2 "_law_draw" ["m", "limit"] (sp__law_draw ca) := by
  obtain ⟨f, fd, hm, Fn, hb⟩ := T.a__law_draw
  obtain ⟨fx, fdx, mx, kx, bx, GX⟩ := h__law_mixed
  refine ⟨f, fd, hm, Fn.kp, hb, Fn.okX sc__law_draw (fun vs H Q E h => ?_) fun cdv A outer s H vs Q E hr h => ?_⟩
  · obtain ⟨S, F, ds, n, _, _, _, r, l, rfl, _⟩ := h
    rw [r.length]
    rfl
  · exact ⟨t_draw K (spOf K mg spMixed) E, (pss_cons (ps_set (i := 2) sc__law_draw.nd rfl (.inl rfl) (pe_dget (PL.Room.hu1 hr) (pv 0) pe_str (fun _ _ => rfl)))
    (pss_cons (ps_dput (PL.Room.hu1 hr) (pv 0) pe_str (pe_op op_add (pv 2) pe_int) rfl)
    (pss_cons (ps_if (pt_cmpR (op_neD (Room.eqU hr)) (pe_dget (PL.Room.hu1 hr) (pv 0) pe_str (fun _ _ => rfl)) (pe_lst pa_nil) (nomark _)) (pss_cons (ps_set (i := 3) sc__law_draw.nd rfl (.inl rfl) (pe_dget (PL.Room.hu1 hr) (pv 0) pe_str (fun _ _ => rfl)))
    (pss_cons (ps_set (i := 4) sc__law_draw.nd rfl (.inl rfl) (pe_op op_mod (pe_callTy call_intI rfl T.b_int (by decide +kernel) (pa_cons (pv 2) pa_nil)) (pe_callB call_len rfl T.b_len (by decide +kernel) (pa_cons (pv 3) pa_nil))))
    (pss_cons (ps_set (i := 5) sc__law_draw.nd rfl (.inl rfl) (pe_ix ix_list (pv 3) (pv 4) (fun _ _ => rfl)))
    (pss_cons (ps_if (pt_cmpR op_gt (pv 5) pe_int (nomark _)) (pss_cons (ps_asg (pe_op op_fdivW (pv 5) (pv 1)) (pg_sub (pv 3) (pv 4) set_list (by intro _; rfl)))
    (pss_cons (ps_ret (pe_op op_mod (pe_callTy call_intI rfl T.b_int (by decide +kernel) (pa_cons (pv 5) pa_nil)) (pv 1)))
    pss_nil)) pss_nil)
    pss_nil)))) pss_nil)
    (pss_cons (ps_ret (pe_op op_mod (pe_callTy call_intI rfl T.b_int (by decide +kernel) (pa_cons (pe_call GX (hr.mono (by decide)) rfl mx kx bx .nil (passes_call (takes_of rfl rfl rfl rfl) (fun _ _ _ _ h => h)) (pa_cons (pe_call GX (hr.mono (by decide)) rfl mx kx bx .nil (passes_call (takes_of rfl rfl rfl rfl) (fun _ _ _ _ h => h)) (pa_cons (pe_op op_add (pe_ix ix_list (pe_dget (PL.Room.hu1 hr) (pv 0) pe_str (fun _ _ => rfl)) (pe_op op_mod (pe_callTy call_intI rfl T.b_int (by decide +kernel) (pa_cons (pv 2) pa_nil)) pe_int) (fun _ _ => rfl)) (pe_op op_mulW pe_int (pe_op op_fdivW (pv 2) pe_int))) (pa_cons (pv 2) pa_nil))) (pa_cons (pe_op op_add (pv 2) pe_int) pa_nil))) pa_nil)) (pv 1)))
    pss_nil)))), draw_pure h⟩
end LK
end
section
set_option Elab.async false
set_option linter.all false
set_option maxRecDepth 100000
set_option maxHeartbeats 4000000
set_option autoImplicit false
/-! P16: the script walked; a comprehension kept as an own list; the law's beginning. -/
namespace PL
open PySem PySem.Spec PyProof.Rows L2 RZ
/-- pins that keep a list readable -/
def lstPins {K : PySem.W.Frag} {F : Hp} {a : Addr} {xs : List V} (_ : SqL K F a xs) : Pins := match F a with
  | some o => [.o a o]
  | none => []
theorem lstPins_ok {c : Cc} {F G : Hp} {a : Addr} {xs : List V} (h : SqL c.K F a xs) (s : Sub F G) : ∀ q ∈ lstPins h, PinOk c G q := fun q hq => by
  unfold lstPins at hq
  split at hq
  · rename_i o e
    have : q = .o a o := by simpa using hq
    subst this
    exact s _ _ e
  · cases hq
theorem lstPins_at {c : Cc} {F G : Hp} {a : Addr} {xs : List V} (h : SqL c.K F a xs) (hp : ∀ q ∈ lstPins h, PinOk c G q) : SqL c.K G a xs := by
  unfold lstPins at hp
  rcases id h with (z | ⟨o, z⟩) | z
  · rw [z] at hp
    exact .inl (.inl (hp (.o a _) (by simp)))
  · rw [z] at hp
    exact .inl (.inr ⟨o, hp (.o a _) (by simp)⟩)
  · exact .inr z
section
variable {X : Cx} {B : Bd} {pos p p1 : Pos} {x : Str}
def dFixE (i : Nat) (a : Addr) (ds : List D) : TAD := fun e Q => e.s[i]? = some (.d (rfTok a)) ∧ Q e.w (pairD (rangeD 0 ds.length) ds)
def dFixS (i : Nat) (a : Addr) (ds : List D) : TAD := fun e Q => e.s[i]? = some (.d (rfTok a)) ∧ Q e.w ds
theorem rf_at {A : Am} {e : Ev} {F H : Hp} {σ : L2.St} {a : Addr} {i : Nat} (s : Sim A e F σ H) (h : e.s[i]? = some (.d (rfTok a))) : σ[i]? = some (some (.ref a)) := by
  obtain ⟨v, e1, r⟩ := s.rel i _ h
  unfold rfTok at r
  cases r
  exact e1
theorem ints_at {xs : List Int} {i : Nat} {v : V} {d : D} {c : Cc} {F : Hp} (h1 : (xs.map V.int)[i]? = some v) (h2 : (xs.map PyData.int)[i]? = some d) : Rp c F v d := by
  rw [List.getElem?_map] at h1 h2
  cases z : xs[i]? with
  | none => rw [z] at h1; cases h1
  | some k =>
    rw [z] at h1 h2
    cases h1
    cases h2
    exact .int k
theorem pxi_enumF (i : Nat) {a : Addr} {ns : List Int} {elts : List Expr} {kk : Nat} {tpos : Pos} (hS : SqL X.K B.F0 a (ns.map V.int)) (hg : Gl X "enumerate") (hm : X.mg "enumerate" = none) (hv : PE X (.Name x p1) (tVar i)) (hs : starEach [(.Name x p1 : Expr)] X.env = [(false, eval (.Name x p1) X.env)] := by rfl) :
    PXI X B (.Tuple elts kk tpos) (.Call (.Name "enumerate" p) [.Name x p1] [] pos) (dFixE i a (ns.map PyData.int)) := by
  refine ⟨fun e Q Q' j q => ⟨q.1, j _ _ q.2⟩, pi_imp (pi_enum hg hm (pa_cons hv pa_nil) hs) fun σ H R q => ?_⟩
  obtain ⟨e, F, s, h1, q⟩ := q
  have hF : SqL X.K F a (ns.map V.int) := s.en.f.l hS
  refine ⟨_, rf_at s h1, a, _, rfl, s.fh.l hF, q F H (Step.refl s.fh) s.ms _ _ _ (lstPins (F := F) hF) (by rw [pairD_len, rangeD_len, Nat.min_self, List.length_map, ← List.length_map (f := V.int)]; exact walk_enum) (wok_pair (ds := rangeD 0 (ns.map PyData.int).length) (es := ns.map PyData.int) (fun F' H' sb hp => sb.l (lstPins_at (c := cc X B.S) hF hp)) (fun F i v d hp h1 h2 => ?_) (fun F i v d hp h1 h2 => ints_at h1 h2) fun i z hz => pairD_get hz) (lstPins_ok (c := cc X B.S) hF (Sub.refl F))⟩
  rw [rangeD_get h2]
  cases h1
  have : (0 : Int) + (i : Int) = (i : Int) := Int.zero_add _
  rw [this]
  exact .int _
theorem pxi_seqF (i : Nat) {a : Addr} {ns : List Int} {tg : Expr} (hS : SqL X.K B.F0 a (ns.map V.int)) (hv : PE X (.Name x p1) (tVar i)) : PXI X B tg (.Name x p1) (dFixS i a (ns.map PyData.int)) := by
  refine ⟨fun e Q Q' j q => ⟨q.1, j _ _ q.2⟩, pi_imp (pi_list hv) fun σ H R q => ?_⟩
  obtain ⟨e, F, s, h1, q⟩ := q
  have hF : SqL X.K F a (ns.map V.int) := s.en.f.l hS
  refine ⟨_, rf_at s h1, a, rfl, ⟨_, s.fh.l hF⟩, q F H (Step.refl s.fh) s.ms _ _ _ (lstPins (F := F) hF) (by rw [List.length_map, ← List.length_map (f := V.int)]; exact walk_list) ⟨fun F' H' sb hp => sb.l (lstPins_at (c := cc X B.S) hF hp), fun i F' H' v H'' sb hp y d hd => ?_⟩ (lstPins_ok (c := cc X B.S) hF (Sub.refl F))⟩
  obtain ⟨e1, y⟩ := y
  subst e1
  exact ⟨F', Step.refl sb, Sub.refl _, ints_at y hd⟩
/-- name = [.. for ..], kept as the def's own -/
theorem pxs_setLcO (i : Nat) {y : Str} {py spos : Pos} {elt tg iter : Expr} {ifs : List Expr} {scope : Scope} {own : List (Str × Nat)} {ti : TAD} {g : TGD} {sl : List Nat} {tt : TTD} {te : TD} (hc : X.calm = true) (hN : X.N.Nodup) (hy : X.N[i]? = some y) (hyl : X.env.scope.names.lookup y = some .local) (hi : PXIc X B tg iter ti) (ok : BlkOk X.N X.env.scope scope own)
    (hg : ∀ (s : Shared) (H : Hp) (C : Addr) (cl : List (Str × Addr)) (fp : List Addr), PXG (X.blk s H scope (compEnvC scope cl C X.env) fp) B tg g sl) (ht : ∀ (s : Shared) (H : Hp) (C : Addr) (cl : List (Str × Addr)) (fp : List Addr), PXTs (X.blk s H scope (compEnvC scope cl C X.env) fp) B ifs tt)
    (he : ∀ (s : Shared) (H : Hp) (C : Addr) (cl : List (Str × Addr)) (fp : List Addr), PX (X.blk s H scope (compEnvC scope cl C X.env) fp) B elt te) (hv : ∀ i ∈ sl, i ∈ own.map (·.2)) (hsw : swapsWith (.ListComp elt [⟨tg, iter, ifs, 0⟩] scope pos) (some (.Name y py)) spos.line X.env = pure true := by rfl)
    (hs : ∀ x, foldedSetIterable iter X.env x = pure x := by intro _; rfl) : PXS X B (.Assign [.Name y py] (.ListComp elt [⟨tg, iter, ifs, 0⟩] scope pos) spos) (dSetO i (dLc ti g tt te (own.map (·.2)))) := by
  have mg := (hg ({} : Shared) (fun _ => none) 0 [] []).mono
  have mt := (ht ({} : Shared) (fun _ => none) 0 [] []).mono
  have me := (he ({} : Shared) (fun _ => none) 0 [] []).mono
  refine ⟨fun D D' e l q => hi.mono _ _ _ (fun w ds q => dLcL_mono mg mt me (fun w ds q => l.nx _ q) _ _ _ q) q, fun P => ps_imp (ps_setLc (wi := liftIc (am X B) ti) (g := liftG (am X B) g sl) (tt := liftT (am X B) tt) (te := lift (am X B) te) hc hN hy hyl hsw hi.pi ok (fun s H C cl fp => (hg s H C cl fp).pg) (fun s H C cl fp => (ht s H C cl fp).pts) (fun s H C cl fp => (he s H C cl fp).pe) hs) fun D σ H q => ?_⟩
  obtain ⟨e, F, s, q⟩ := q
  refine lc_d hi.mono mg mt me hv ⟨e, F, s.sim, hi.mono _ _ _ (fun w ds q => dLcL_mono mg mt me (fun w ds q p vs F' H' st m hp fp h' r => ?_) _ _ _ q) q⟩
  have h0 : B.H0 p = none := by
    cases z : B.H0 p with
    | none => rfl
    | some o => exact absurd hp (s.sim.en.t p (by show B.H0 p ≠ none; rw [z]; simp))
  refine q F' _ H' (s.to st.f ((s.sim.step st m).setOwn i fp (s.sim.ms.nmut hp) h' r h0 fun j xs h1 _ z => ?_))
  obtain ⟨p1, vs1, o1, _, _, hp1, _⟩ := s.sim.rel j _ h1
  rw [z] at o1
  cases o1
  rw [hp] at hp1
  cases hp1
end
end PL
end
section
set_option Elab.async false
set_option linter.all false
set_option maxRecDepth 100000
set_option maxHeartbeats 4000000
set_option autoImplicit false
/-! P17: loops by what holds at each turn. -/
namespace PL
open PySem PySem.Spec PyProof.Rows L2
theorem for_inv {g : TGD} {tb : TSD} {D : EndsD} (I : List PyData → Ev → Prop) (step : ∀ x xs e (K : Ev → Prop), I (x :: xs) e → (∀ e', I xs e' → K e') → g x e fun e1 => tb { nx := K, ct := K, rt := D.rt, bk := D.nx } e1) (fin : ∀ e, I [] e → D.nx e) : ∀ ds e, I ds e → dForL g tb D ds e
  | [], e, h => fin e h
  | x :: xs, e, h => step x xs e (dForL g tb D xs) h fun e' h' => for_inv I step fin xs e' h'
theorem lc_inv {g : TGD} {tt : TTD} {te : TD} {s0 : List Sl} {Q : Nat → List D → Prop} (I : List D → Nat → List D → Prop)
    (step : ∀ x xs w acc (K : Nat → List D → Prop), I (x :: xs) w acc → (∀ w' acc', I xs w' acc' → K w' acc') → acc.length < sizeLine ∧ g x ⟨s0, w⟩ fun e1 => tt e1 fun w1 k => if k = true then te { e1 with w := w1 } fun w2 d => K w2 (acc ++ [d]) else K w1 acc)
    (fin : ∀ w acc, I [] w acc → Q w acc) : ∀ ds w acc, I ds w acc → dLcL g tt te s0 Q ds w acc
  | [], w, acc, h => fin w acc h
  | x :: xs, w, acc, h => step x xs w acc (dLcL g tt te s0 Q xs) h fun w' acc' h' => lc_inv I step fin xs w' acc' h'
theorem wh_inv {c : TTD} {tb : TSD} {D : EndsD} (I : Nat → Ev → Prop) (step : ∀ n e (K : Ev → Prop), I n e → (∀ e', (∃ n', n = n' + 1 ∧ I n' e') → K e') → c e fun w k => if k = true then tb { nx := K, ct := K, rt := D.rt, bk := D.nx } { e with w := w } else D.nx { e with w := w }) :
    ∀ n e, I n e → dWhileN c tb D (n + 1) e
  | 0, e, h => step 0 e (dWhileN c tb D 0) h fun e' ⟨n', h1, _⟩ => by omega
  | n + 1, e, h => step (n + 1) e (dWhileN c tb D (n + 1)) h fun e' ⟨n', h1, h2⟩ => by
    have : n' = n := by omega
    subst this
    exact wh_inv I step n' e' h2
/-- what is promised of the fold -/
def spFold (K : PySem.W.Frag) (mg : Str → Option Value) : Sp := fun vs H Q _ => ∃ (S : Msh) (F : Hp) (a : Addr) (ns : List Int) (w : Nat), vs = [.ref a] ∧ Sub F H ∧ MSt S w H ∧ (∀ b, S.mut b → F b = none) ∧ SqL K F a (ns.map V.int) ∧ ns.length ≤ 63 ∧
  ∀ (cells : List Int) (v : V) (F' H' : Hp), cells.length = 64 → (∀ c ∈ cells, c.natAbs < 2 ^ 31) → Step S F H F' H' → MSt S w H' → Rp ⟨K, mg, S⟩ F' v (.list (cells.map PyData.int)) → Q v H'
theorem fold_body {P : Program} {w : World} {K : PySem.W.Frag} {mg : Str → Option Value} {base : Heap} {x : Str} {st : Stmt} {N : List Str} {k : Nat} (A : At K mg x st ["script"]) (Sc : FnScope N ["script"] (defScope st))
    (hbody : ∀ (f : Addr) (cdv : Value) (A : Around) (outer : List Env) (s : Shared) (S : Msh) (F H : Hp) (E : XK) (a : Addr) (ns : List Int), Room k (A.deeper (envOfC x (defScope st) s.heap.objs.size f cdv)) → SqL K F a (ns.map V.int) → ns.length ≤ 63 →
      ∃ t, PXSs (cxOf (L2.CX P w) P w K mg base N x (defScope st) f cdv A outer s H E) ⟨S, F, H⟩ (defBody st) t ∧
        ∀ n (Q : Nat → D → Prop), (∀ cells : List Int, cells.length = 64 → (∀ c ∈ cells, c.natAbs < 2 ^ 31) → Q n (.list (cells.map PyData.int))) → t (retD Q) ⟨startD N [rfTok a], n⟩) :
    ∃ f fd, mg x = some (.ref f) ∧ PySem.W.keepIn K (.ref f) = true ∧ Binds K fd ["script"] [] ∧ FnOk P w K mg base (L2.CX P w) (k + 1) f fd ["script"] (spFold K mg) := by
  obtain ⟨f, fd, hm, Fn, hb⟩ := A
  refine ⟨f, fd, hm, Fn.kp, hb, Fn.okX Sc (fun vs H Q E h => ?_) fun cdv A outer s H vs Q E hr h => ?_⟩
  · obtain ⟨S, F, a, ns, w, e, _⟩ := h
    rw [e]
    rfl
  · obtain ⟨S, F, a, ns, n, rfl, sb, m, fm, hS, hl, q⟩ := h
    obtain ⟨t, ht, hq⟩ := hbody f cdv A outer s S F H E a ns hr hS hl
    have q0 := hq n (fun w' d => ∀ v F' H', Step S F H F' H' → MSt S w' H' → Rp ⟨K, mg, S⟩ F' v d → Q v H') (fun cells h1 h2 v F' H' st m r => q cells v F' H' h1 h2 st m r)
    refine ⟨_, ht.ps [], ⟨⟨startD N [rfTok a], n⟩, F, ⟨sim_start (N := N) sb m fm (.cons (.rf a) .nil), fun q hq => absurd hq (by simp)⟩, ht.mono _ _ _ ⟨fun e q F' σ' H' s' => ?_, fun n' d q v F' H' st' m' r' => ?_, fun _ q => False.elim q, fun _ q => False.elim q⟩ q0⟩⟩
    · exact q .non F' H' s'.sim.en s'.sim.ms .non
    · exact q v F' H' st' m' r'
end PL
namespace PL
open PySem PySem.Spec PyProof.Rows L2
abbrev kI1 : List D → (D → Prop) → Prop := fun ds Q => ∃ i : Int, ds = [PyData.int i] ∧ Q (PyData.int i)
abbrev dI (t : TD) : TD := dCB kI1 (dCons t dNil)
def t_fold (a : Addr) (ns : List Int) : TSD :=
  dSeq (dSetO 1 (dLc (dRange1 (dCons (dC (.int 64)) dNil)) (gNm 2) dYes (dOp rAddD (dC (.int 37)) (dOp rMulD (dC (.int 13)) (dVar 2))) [2]))
  (dSeq (dFor (dFixE 0 a (ns.map PyData.int)) (gTp 2 (gCn (gNm 2) (gCn (gNm 3) gNl))) (dSeq (dSetIx 1 (dOp rModD (dI (dVar 2)) (dC (.int 64))) (dOp rModD (dI (dOp rAddD (dOp rMulD (dIxO 1 (dOp rModD (dI (dVar 2)) (dC (.int 64)))) (dC (.int 48271))) (dVar 3))) (dC (.int 2147483647)))) dNext))
  (dSeq (dFor (dRange2 (dCons (dC (.int 1)) (dCons (dC (.int 64)) dNil))) (gNm 2) (dSeq (dSetIx 1 (dVar 2) (dOp rModD (dI (dOp rAddD (dIxO 1 (dVar 2)) (dOp rMulD (dIxO 1 (dOp rSubD (dVar 2) (dC (.int 1)))) (dC (.int 16807))))) (dC (.int 2147483647)))) dNext))
  (dFrz 1 (dSeq (dRet (dVar 1)) dNext))))
theorem gTp2 {g1 g2 : TGD} {a b : D} {e : Ev} {Q : Ev → Prop} : gTp 2 (gCn g1 (gCn g2 gNl)) (.tuple [a, b]) e Q ↔ g1 a e fun e' => g2 b e' fun e'' => [] = ([] : List D) ∧ Q e'' := by
  constructor
  · rintro ⟨ds, h, _, d, r, h2, q⟩
    cases h
    cases h2
    unfold gCn at q
    have e1 : (fun e' => ∃ d r, [b] = d :: r ∧ g2 d e' fun e' => gNl r e' Q) = fun e' => g2 b e' fun e'' => [] = ([] : List D) ∧ Q e'' := by
      funext e'
      apply propext
      constructor
      · rintro ⟨d, r, h, q⟩
        cases h
        exact q
      · exact fun q => ⟨b, [], rfl, q⟩
    rw [e1] at q
    exact q
  · intro q
    refine ⟨_, rfl, rfl, a, [b], rfl, ?_⟩
    unfold gCn
    have e1 : (fun e' => ∃ d r, [b] = d :: r ∧ g2 d e' fun e' => gNl r e' Q) = fun e' => g2 b e' fun e'' => [] = ([] : List D) ∧ Q e'' := by
      funext e'
      apply propext
      constructor
      · rintro ⟨d, r, h, q⟩
        cases h
        exact q
      · exact fun q => ⟨b, [], rfl, q⟩
    rw [e1]
    exact q
theorem gTp3 {i j k : Nat} {a b c : D} {e : Ev} {Q : Ev → Prop} : gTp 3 (gCn (gNm i) (gCn (gNm j) (gCn (gNm k) gNl))) (.tuple [a, b, c]) e Q ↔ Q ⟨((e.s.set i (.d a)).set j (.d b)).set k (.d c), e.w⟩ := by
  constructor
  · rintro ⟨ds, h, _, d, r, h2, d2, r2, h3, d3, r3, h4, h5, q⟩
    cases h
    cases h2
    cases h3
    cases h4
    exact q
  · intro q
    exact ⟨_, rfl, rfl, a, [b, c], rfl, b, [c], rfl, c, [], rfl, rfl, q⟩
/-- cells of less than 31 bits -/
def Cells (cs : List Int) : Prop := cs.length = 64 ∧ ∀ c ∈ cs, c.natAbs < 2 ^ 31
theorem Cells.set {cs : List Int} (h : Cells cs) (i : Nat) {c : Int} (hc : c.natAbs < 2 ^ 31) : Cells (cs.set i c) := ⟨by rw [List.length_set]; exact h.1, fun x hx => by
  rcases List.mem_or_eq_of_mem_set hx with z | z
  · exact h.2 x z
  · rw [z]; exact hc⟩
theorem mod31 (z : Int) : (z % 2147483647).natAbs < 2 ^ 31 := by
  have e1 := Int.emod_nonneg z (show (2147483647 : Int) ≠ 0 by decide)
  have e2 := Int.emod_lt_of_pos z (show (0 : Int) < 2147483647 by decide)
  omega
theorem Cells.at {cs : List Int} (h : Cells cs) {i : Int} (h0 : 0 ≤ i) (h1 : i < 64) : ∃ c : Int, L2.atI (cs.map PyData.int) i = some (.int c) ∧ L2.ixN cs.length i = some i.toNat ∧ c.natAbs < 2 ^ 31 := by
  have hi : i.toNat < cs.length := by
    have := h.1
    omega
  have hc : cs[i.toNat]? = some cs[i.toNat] := List.getElem?_eq_getElem hi
  have ix : L2.ixN (cs.map PyData.int).length i = some i.toNat := by
    unfold L2.ixN
    rw [if_pos h0, if_pos (by rw [List.length_map, h.1]; exact h1)]
  refine ⟨cs[i.toNat], ?_, by rw [← ix, List.length_map], h.2 _ (List.getElem_mem hi)⟩
  unfold L2.atI
  rw [ix]
  show (cs.map PyData.int)[i.toNat]? = _
  rw [List.getElem?_map, hc]
  rfl
theorem fold_pure {a : Addr} {ns : List Int} {n : Nat} {Q : Nat → D → Prop} (hl : ns.length ≤ 63) (q : ∀ cells : List Int, cells.length = 64 → (∀ c ∈ cells, c.natAbs < 2 ^ 31) → Q n (.list (cells.map PyData.int))) : t_fold a ns (retD Q) ⟨startD ["script", "found", "n", "cell"] [rfTok a], n⟩ := by
  -- the list made
  refine ⟨64, rfl, by decide, ?_⟩
  refine lc_inv (fun xs w' acc => w' = n ∧ ∃ cs : List Int, acc = cs.map PyData.int ∧ cs.length + xs.length = 64 ∧ (∀ c ∈ cs, c.natAbs < 2 ^ 31) ∧ ∀ x ∈ xs, ∃ k : Int, x = .int k ∧ 0 ≤ k ∧ k < 64) ?_ ?_ _ n [] ⟨rfl, [], rfl, by rw [rangeD_len]; rfl, by simp, fun x hx => ?_⟩
  · rintro x xs w' acc K ⟨rfl, cs, rfl, h1, h2, h3⟩ k
    obtain ⟨j, rfl, j1, j2⟩ := h3 x List.mem_cons_self
    refine ⟨by rw [List.length_map, sizeLine_eq]; simp only [List.length_cons] at h1; omega, ?_⟩
    refine ⟨LK.log_mul (i := 13) (j := j) (LK.nb_le (A := 10) (by decide) (by decide)) (LK.nb_le (A := 10) (by omega) (by decide)), ?_⟩
    refine k _ _ ⟨rfl, cs ++ [37 + 13 * j], by simp, by simp only [List.length_append, List.length_cons, List.length_nil] at h1 ⊢; omega, fun c hc => ?_, fun x hx => h3 x (List.mem_cons_of_mem _ hx)⟩
    rcases List.mem_append.mp hc with z | z
    · exact h2 c z
    · simp only [List.mem_cons, List.not_mem_nil, or_false] at z
      subst z
      omega
  · rintro w' acc ⟨rfl, cs, rfl, h1, h2, _⟩
    have hC : Cells cs := ⟨by simpa using h1, h2⟩
    -- the script laid in
    refine ⟨rfl, ?_⟩
    refine for_inv (fun xs e => ∃ (cs : List Int) (s2 s3 : Sl), e = ⟨[.d (rfTok a), .own (cs.map PyData.int), s2, s3], w'⟩ ∧ Cells cs ∧ ∀ x ∈ xs, ∃ k c : Int, x = .tuple [.int k, .int c]) ?_ ?_ _ _ ⟨cs, .no, .no, rfl, hC, fun x hx => ?_⟩
    · rintro x xs e K ⟨cs, s2, s3, rfl, hC, h3⟩ k
      obtain ⟨j, c, rfl⟩ := h3 x List.mem_cons_self
      have e1 := Int.emod_nonneg j (show (64 : Int) ≠ 0 by decide)
      have e2 := Int.emod_lt_of_pos j (show (0 : Int) < 64 by decide)
      obtain ⟨c0, h4, h5, h6⟩ := hC.at e1 e2
      have l1 := LK.log_mul (i := c0) (j := 48271) (LK.nb_le h6 (by decide)) (LK.nb_le (A := 30) (by decide) (by decide))
      simp [gTp2, gNm, dSeq, dNext, dSetIx, dOp, rModD, rAddD, rMulD, dCB, dCons, dNil, dVar, dC, dIxO, h4, h5, kI1, ex2]
      refine ⟨by simpa using l1, ?_⟩
      rw [show (cs.map PyData.int).set (j % 64).toNat (.int ((c0 * 48271 + c) % 2147483647)) = (cs.set (j % 64).toNat ((c0 * 48271 + c) % 2147483647)).map PyData.int by rw [List.map_set]]
      exact k _ ⟨_, _, _, rfl, hC.set _ (mod31 _), fun x hx => h3 x (List.mem_cons_of_mem _ hx)⟩
    · rintro e ⟨cs, s2, s3, rfl, hC, _⟩
      -- the sums
      refine ⟨1, 64, rfl, by decide, ?_⟩
      refine for_inv (fun xs e => ∃ (cs : List Int) (s2 s3 : Sl), e = ⟨[.d (rfTok a), .own (cs.map PyData.int), s2, s3], w'⟩ ∧ Cells cs ∧ ∀ x ∈ xs, ∃ k : Int, x = .int k ∧ 1 ≤ k ∧ k < 64) ?_ ?_ _ _ ⟨cs, s2, s3, rfl, hC, fun x hx => ?_⟩
      · rintro x xs e K ⟨cs, s2, s3, rfl, hC, h3⟩ k
        obtain ⟨j, rfl, j1, j2⟩ := h3 x List.mem_cons_self
        obtain ⟨c0, h4, h5, h6⟩ := hC.at (show 0 ≤ j by omega) j2
        obtain ⟨c1, h7, h8, h9⟩ := hC.at (show 0 ≤ j - 1 by omega) (by omega)
        have l1 := LK.log_mul (i := c1) (j := 16807) (LK.nb_le h9 (by decide)) (LK.nb_le (A := 30) (by decide) (by decide))
        simp [gNm, dSeq, dNext, dSetIx, dOp, rModD, rAddD, rMulD, rSubD, dCB, dCons, dNil, dVar, dC, dIxO, h4, h5, h7, kI1, ex2]
        refine ⟨by simpa using l1, ?_⟩
        rw [show (cs.map PyData.int).set j.toNat (.int ((c0 + c1 * 16807) % 2147483647)) = (cs.set j.toNat ((c0 + c1 * 16807) % 2147483647)).map PyData.int by rw [List.map_set]]
        exact k _ ⟨_, _, _, rfl, hC.set _ (mod31 _), fun x hx => h3 x (List.mem_cons_of_mem _ hx)⟩
      · rintro e ⟨cs, s2, s3, rfl, hC, _⟩
        simp [dFrz, frz, dSeq, dRet, dVar, retD]
        exact q cs hC.1 hC.2
      · unfold rangeD at hx
        obtain ⟨i, hi, rfl⟩ := List.mem_map.mp hx
        have := List.mem_range.mp hi
        exact ⟨_, rfl, by omega, by omega⟩
    · obtain ⟨i, hi, hx⟩ := List.mem_iff_getElem.mp hx
      have hg := List.getElem?_eq_getElem hi
      rw [hx] at hg
      obtain ⟨d, e, h1, h2, h3⟩ := pairD_get hg
      rw [rangeD_get h1] at h3
      rw [List.getElem?_map] at h2
      cases z : ns[i]? with
      | none => rw [z] at h2; cases h2
      | some k =>
        rw [z] at h2
        cases h2
        exact ⟨_, _, h3⟩
  · unfold rangeD at hx
    obtain ⟨i, hi, rfl⟩ := List.mem_map.mp hx
    have := List.mem_range.mp hi
    exact ⟨_, rfl, by omega, by omega⟩
end PL
end
section
set_option Elab.async false
set_option linter.all false
set_option maxRecDepth 100000
set_option maxHeartbeats 4000000
set_option autoImplicit false
namespace LK
open PySem PySem.Spec PyProof.Rows L2 PL
theorem sc__law_folded : FnScope ["script", "found", "n", "cell"] ["script"] (defScope s__law_folded) := ⟨rfl, rfl, rfl, by decide +kernel, rfl, by decide +kernel, by decide +kernel⟩
theorem ok__law_folded {w : World} {K : PySem.W.Frag} {mg : Str → Option Value} {base : Heap} {ca : Str → Addr} (T : Txt K mg ca) : ∃ f fd, mg "_law_folded" = some (.ref f) ∧ PySem.W.keepIn K (.ref f) = true ∧ Binds K fd ["script"] [] ∧ FnOk prog w K mg base (L2.CX prog w) 2 f fd ["script"] (spFold K mg) := by
  refine fold_body T.a__law_folded sc__law_folded fun f cdv A outer s S F H E a ns hr hS hl => ⟨t_fold a ns, (pxs_cons (pxs_setLcO 1 (own := [("n", 2)]) rfl sc__law_folded.nd rfl rfl (PXI.toC (pxi_range1 rfl T.b_range (pxa_cons (px_c pe_int fun _ _ => .int _) pxa_nil))) (blkOk_by rfl) (fun s H C cl fp => (pxg_name 2 sc__law_folded.nd rfl (.inl rfl))) (fun s H C cl fp => pxts_nil) (fun s H C cl fp => (px_op od_add (px_c pe_int fun _ _ => .int _) (px_op od_mul (px_c pe_int fun _ _ => .int _) (px_var 2 (pv 2))))) (by decide))
    (pxs_cons (pxs_for passes_cx rfl (pxi_enumF 0 hS rfl T.b_enumerate (pv 0)) (pxg_tup (n := 2) rfl (pxgs_cons (pxg_name 2 sc__law_folded.nd rfl (.inl rfl)) (pxgs_cons (pxg_name 3 sc__law_folded.nd rfl (.inl rfl)) pxgs_nil))) (pxs_cons (pxs_setIx 1 (pv 1) (px_op od_mod (px_callTy cd_int rfl T.b_int rfl (pxa_cons (px_var 2 (pv 2)) pxa_nil)) (px_c pe_int fun _ _ => .int _)) (px_op od_mod (px_callTy cd_int rfl T.b_int rfl (pxa_cons (px_op od_add (px_op od_mul (px_ixO 1 (pv 1) (px_op od_mod (px_callTy cd_int rfl T.b_int rfl (pxa_cons (px_var 2 (pv 2)) pxa_nil)) (px_c pe_int fun _ _ => .int _)) (fun _ _ => rfl)) (px_c pe_int fun _ _ => .int _)) (px_var 3 (pv 3))) pxa_nil)) (px_c pe_int fun _ _ => .int _))) pxs_nil))
    (pxs_cons (pxs_for passes_cx rfl (pxi_range2 rfl T.b_range (pxa_cons (px_c pe_int fun _ _ => .int _) (pxa_cons (px_c pe_int fun _ _ => .int _) pxa_nil))) (pxg_name 2 sc__law_folded.nd rfl (.inl rfl)) (pxs_cons (pxs_setIx 1 (pv 1) (px_var 2 (pv 2)) (px_op od_mod (px_callTy cd_int rfl T.b_int rfl (pxa_cons (px_op od_add (px_ixO 1 (pv 1) (px_var 2 (pv 2)) (fun _ _ => rfl)) (px_op od_mul (px_ixO 1 (pv 1) (px_op od_sub (px_var 2 (pv 2)) (px_c pe_int fun _ _ => .int _)) (fun _ _ => rfl)) (px_c pe_int fun _ _ => .int _))) pxa_nil)) (px_c pe_int fun _ _ => .int _))) pxs_nil))
    (pxss_frz 1 (pxs_cons (pxs_ret (px_var 1 (pv 1))) pxs_nil))))), fun n Q q => fold_pure hl q⟩
end LK
end
section
set_option Elab.async false
set_option linter.all false
set_option maxRecDepth 100000
set_option maxHeartbeats 4000000
set_option autoImplicit false
/-! P18: the law's beginning, plain. -/
namespace PL
open PySem PySem.Spec PyProof.Rows L2
def spBegun (K : PySem.W.Frag) : Sp := fun vs H Q _ => ∃ (T : List (Addr × Str)) (a : Addr) (ns : List Int), vs = [.ref a] ∧ SqL K H a (ns.map V.int) ∧ ns.length ≤ 63 ∧ LamX.Tabs T H ∧
  ∀ (m : Mm) (cells great : List Int) (H' : Hp), MLies m cells great 0 H' → m.ac ≠ m.ag → cells.length = 64 → (∀ c ∈ cells, c.natAbs < 2 ^ 31) → great.length < 64 → LamX.Tabs T H' → Q (.ref m.am) H'
abbrev dGreat (a : Addr) (ns : List Int) : TAD := dLc (dFixS 0 a (ns.map PyData.int)) (gNm 2) dYes (dIf (dTest (dOp (rCmpD fun i j => decide (j ≤ i)) (dVar 2) (dOp rPowD (dC (.int 10)) (dC (.int 18))))) (dVar 2) (dC (.int 0))) [2]
def t_begun (A : Am) (sp : Sp) (E : XK) (a : Addr) (ns : List Int) : TS :=
  tSeq (tAsg (tDisp [(tC (V.str "cells"), tCall sp [] E (tCons (tVar 0) tNil)), (tC (V.str "great"), tLst tNil), (tC (V.str "spot"), tC (V.int 0))]) (gName 1))
    (tSeq (sDPut (tVar 1) (tC (V.str "great")) (liftN A (dGreat a ns))) (tSeq (tRet (tVar 1)) tNext))
theorem ints_of {c : Cc} {F : Hp} : ∀ {vs : List V} {ns : List Int}, RpAll c F vs (ns.map PyData.int) → vs = ns.map V.int
  | _, [], r => by cases r; rfl
  | _, n :: ns, r => by
    cases r with
    | cons h t =>
      cases h
      rw [ints_of t]
      rfl
/-- the script's list, frozen -/
theorem script_froz {K : PySem.W.Frag} {H : Hp} {a : Addr} {xs : List V} {T : List (Addr × Str)} (h : SqL K H a xs) (t : LamX.Tabs T H) : ∃ F, Sub F H ∧ SqL K F a xs ∧ ∀ b, (∃ p ∈ T, b = p.1) → F b = none := by
  rcases h with h | h
  · refine ⟨fun b => if b = a then H a else none, fun b o e => ?_, .inl ?_, fun b ⟨p, hp, e⟩ => ?_⟩
    · by_cases z : b = a
      · simp only [z, if_true] at e ⊢; exact e
      · simp only [z, if_false] at e; cases e
    · unfold L2.Rd at h ⊢
      simpa using h
    · have n : b ≠ a := fun z => by
        obtain ⟨ps, h1, _⟩ := t p hp
        rw [← e, z] at h1
        rcases h with h | ⟨o, h⟩ <;> rw [h] at h1 <;> cases h1
      simp [n]
  · exact ⟨fun _ => none, (fun _ _ e => by cases e), .inr h, fun _ _ => rfl⟩
theorem Step.low {S : Msh} {F H F' H' : Hp} (s : Step S F H F' H') : Step S F H F H' := ⟨Sub.refl F, s.f.trans s.h, s.k, s.t, fun _ e => .inl e⟩
theorem begun_pure {K : PySem.W.Frag} {mg : Str → Option Value} {T : List (Addr × Str)} {F H : Hp} {a : Addr} {ns : List Int} {Q : VK} {E : XK} (sb : Sub F H) (hS : SqL K F a (ns.map V.int)) (hl : ns.length ≤ 63) (hT : LamX.Tabs T H) (fm : ∀ b, (Msh.mk none T).mut b → F b = none)
    (q : ∀ (m : Mm) (cells great : List Int) (H' : Hp), MLies m cells great 0 H' → m.ac ≠ m.ag → cells.length = 64 → (∀ c ∈ cells, c.natAbs < 2 ^ 31) → great.length < 64 → LamX.Tabs T H' → Q (.ref m.am) H') :
    t_begun ⟨⟨K, mg, ⟨none, T⟩⟩, F, H⟩ (spFold K mg) E a ns { nx := fun _ H' => Q .non H', rt := Q } (L2.start ["script", "m", "cell"] [.ref a]) H := by
  have mst : ∀ {H' : Hp}, LamX.Tabs T H' → MSt ⟨none, T⟩ 0 H' := fun t => ⟨(fun m e => by cases e), t⟩
  have nmut : ∀ {b : Addr}, H b = none → ¬ (Msh.mk none T).mut b := fun e z => (mst hT).there z e
  intro p hp
  generalize hH1 : upd H p (.dK []) = H1
  have s01 : Sub H H1 := hH1 ▸ Sub.new hp
  have st1 : Step ⟨none, T⟩ F H F H1 := hH1 ▸ Step.newO sb _ hp
  have e1 : H1 p = some (.dK []) := hH1 ▸ upd_same
  refine ⟨_, rfl, ⟨none, T⟩, F, a, ns, 0, rfl, st1.h, mst (hT.ext s01), fm, hS, hl, fun cells v F2 H2 c1 c2 st2 m2 r => ?_⟩
  cases r with
  | @lst ca vs _ h1 a1 =>
    have ev := ints_of a1
    subst ev
    have stA : Step ⟨none, T⟩ F H F H2 := (st1.trans st2).low
    have e2 : H2 p = some (.dK []) := st2.k _ _ e1 (nmut hp)
    have ec2 : H2 ca = some (.lst (cells.map V.int)) := st2.h _ _ h1
    refine ⟨by rw [sizeLine_eq]; show 0 ≤ 16777216; decide, fun g hg => ?_⟩
    generalize hH3 : upd H2 g (.lst []) = H3
    have s23 : Sub H2 H3 := hH3 ▸ Sub.new hg
    have stB : Step ⟨none, T⟩ F H F H3 := stA.trans (hH3 ▸ Step.newO stA.h _ hg)
    refine ⟨s23 _ _ e2, [(.inr "cells", .ref ca), (.inr "great", .ref g), (.inr "spot", .int 0)], rfl, (by show 3 ≤ 15; decide), ?_⟩
    have d1 : ¬ (PySem.Str.ofString "cells" = PySem.Str.ofString "spot") := by decide +kernel
    have d2 : ¬ (PySem.Str.ofString "great" = PySem.Str.ofString "spot") := by decide +kernel
    have d3 : ¬ (PySem.Str.ofString "cells" = PySem.Str.ofString "great") := by decide +kernel
    have em : mergeK [] [((.inr "cells" : Key), V.ref ca), (.inr "great", .ref g), (.inr "spot", .int 0)] = [(.inr "cells", .ref ca), (.inr "great", .ref g), (.inr "spot", .int 0)] := by simp [mergeK, putK, d1, d2, d3]
    rw [em]
    generalize hH4 : upd H3 p (.dK [(.inr "cells", .ref ca), (.inr "great", .ref g), (.inr "spot", .int 0)]) = H4
    have np : ¬ (Msh.mk none T).mut p := nmut hp
    have fp : F p = none := sb.no hp
    have e4 : H4 p = some (.dK [(.inr "cells", .ref ca), (.inr "great", .ref g), (.inr "spot", .int 0)]) := hH4 ▸ upd_same
    have k4 : ∀ b o, b ≠ p → H3 b = some o → H4 b = some o := fun b o n e => by rw [← hH4, upd_ne n]; exact e
    have ncp : ca ≠ p := fun z => by rw [z, e2] at ec2; cases ec2
    have ec4 : H4 ca = some (.lst (cells.map V.int)) := k4 _ _ ncp (s23 _ _ ec2)
    have t4 : LamX.Tabs T H4 := hH4 ▸ Tabs.updN (m2.2.ext s23) (s23 _ _ e2) (fun _ z => by cases z) (fun _ _ => dk_ne_code)
    have stC : Step ⟨none, T⟩ F H F H4 := ⟨Sub.refl F, fun b o e => k4 b o (fun z => by rw [z, fp] at e; cases e) (stB.h b o e), fun b o e n => k4 b o (fun z => by rw [z, hp] at e; cases e) (stB.k b o e n), fun b e => by
      by_cases z : b = p
      · rw [z, e4]; simp
      · rw [← hH4, upd_ne z]; exact stB.t b e, fun b e => .inl e⟩
    have sim : Sim ⟨⟨K, mg, ⟨none, T⟩⟩, F, H⟩ ⟨[.d (rfTok a), .no, .no], 0⟩ F ((L2.start ["script", "m", "cell"] [.ref a]).set 1 (some (.ref p))) H4 := by
      refine ⟨stC.h, mst t4, fm, rfl, fun i z h => ?_, fun i j xs ys h => ?_, stC, fun i xs p h => ?_⟩
      · match i, h with
        | 0, h => cases h; exact ⟨_, rfl, .rf a⟩
        | 1, h => cases h; trivial
        | 2, h => cases h; trivial
        | n + 3, h => simp at h
      · match i, h with
        | 0, h => cases h
        | 1, h => cases h
        | 2, h => cases h
        | n + 3, h => simp at h
      · match i, h with
        | 0, h => cases h
        | 1, h => cases h
        | 2, h => cases h
        | n + 3, h => simp at h
    refine ⟨_, F, sim, rfl, ?_⟩
    refine lc_inv (fun xs w' acc => w' = 0 ∧ ∃ gs zs : List Int, acc = gs.map PyData.int ∧ xs = zs.map PyData.int ∧ gs.length + zs.length ≤ 63) ?_ ?_ _ 0 [] ⟨rfl, [], ns, rfl, rfl, by simpa using hl⟩
    · rintro x xs w' acc Kc ⟨rfl, gs, zs, rfl, hx, hln⟩ k
      cases zs with
      | nil => cases hx
      | cons z zs =>
        simp only [List.map_cons, List.cons.injEq] at hx
        obtain ⟨rfl, rfl⟩ := hx
        refine ⟨by rw [List.length_map, sizeLine_eq]; simp only [List.length_cons] at hln; omega, ?_⟩
        refine ⟨⟨by decide, by decide, by decide⟩, _, rfl, ?_⟩
        dsimp only
        split
        · exact k _ _ ⟨rfl, gs ++ [z], zs, by simp, rfl, by simp only [List.length_append, List.length_cons, List.length_nil] at hln ⊢; omega⟩
        · exact k _ _ ⟨rfl, gs ++ [0], zs, by simp, rfl, by simp only [List.length_append, List.length_cons, List.length_nil] at hln ⊢; omega⟩
    · rintro w' acc ⟨rfl, gs, zs, rfl, hz, hln⟩ g2 vs2 F5 H5 st5 m5 hg2 fg2 eg2 r2
      have ev := ints_of r2
      subst ev
      have e5 : H5 p = some (.dK [(.inr "cells", .ref ca), (.inr "great", .ref g), (.inr "spot", .int 0)]) := st5.k _ _ e4 np
      have ncm : ¬ (Msh.mk none T).mut ca := fun z => by
        rcases z with ⟨m, e, _⟩ | ⟨t, ht, e⟩
        · cases e
        · obtain ⟨ps, h1, _⟩ := t4 t ht
          rw [← e, ec4] at h1
          cases h1
      have ec5 : H5 ca = some (.lst (cells.map V.int)) := st5.k _ _ ec4 ncm
      have put := DPut.k (k := .inr "great") (v := .ref g2) e5 (by rw [sizeLine_eq]; show 3 < 16777216; decide)
      have ep : putK [((.inr "cells" : Key), V.ref ca), (.inr "great", .ref g), (.inr "spot", .int 0)] (.inr "great") (.ref g2) = [(.inr "cells", .ref ca), (.inr "great", .ref g2), (.inr "spot", .int 0)] := by
        have d4 : ¬ (PySem.Str.ofString "spot" = PySem.Str.ofString "great") := fun z => d2 z.symm
        simp [putK, d3, d4]
      rw [ep] at put
      refine ⟨_, rfl, p, _, rfl, put, _, rfl, ?_⟩
      have nc2 : ca ≠ g2 := fun z => by rw [z, hg2] at ec4; cases ec4
      have np2 : g2 ≠ p := fun z => by rw [z, e4] at hg2; cases hg2
      refine q ⟨p, ca, g2⟩ cells gs _ ⟨upd_same, ?_, ?_⟩ nc2 c1 c2 (by omega) (Tabs.updN m5.2 e5 (fun _ z => by cases z) (fun _ _ => dk_ne_code))
      · show upd H5 p _ ca = _
        rw [upd_ne ncp]
        exact ec5
      · show upd H5 p _ g2 = _
        rw [upd_ne np2]
        exact eg2
end PL
end
section
set_option Elab.async false
set_option linter.all false
set_option maxRecDepth 100000
set_option maxHeartbeats 4000000
set_option autoImplicit false
namespace LK
open PySem PySem.Spec PyProof.Rows L2 PL
theorem sc__law_begun : FnScope ["script", "m", "cell"] ["script"] (defScope s__law_begun) := ⟨rfl, rfl, rfl, by decide +kernel, rfl, by decide +kernel, by decide +kernel⟩
theorem ok__law_begun {w : World} {K : PySem.W.Frag} {mg : Str → Option Value} {base : Heap} {ca : Str → Addr} (T : Txt K mg ca) (h : ∃ f fd, mg "_law_folded" = some (.ref f) ∧ PySem.W.keepIn K (.ref f) = true ∧ Binds K fd ["script"] [] ∧ FnOk prog w K mg base (L2.CX prog w) 2 f fd ["script"] (spFold K mg)) :
    ∃ f fd, mg "_law_begun" = some (.ref f) ∧ PySem.W.keepIn K (.ref f) = true ∧ Binds K fd ["script"] [] ∧ FnOk prog w K mg base (L2.CX prog w) 3 f fd ["script"] (spBegun K) := by
  obtain ⟨ff, fdf, mf, kf, bf, GF⟩ := h
  obtain ⟨f, fd, hm, Fn, hb⟩ := T.a__law_begun
  refine ⟨f, fd, hm, Fn.kp, hb, Fn.okX sc__law_begun (fun vs H Q E h => ?_) fun cdv A outer s H vs Q E hr h => ?_⟩
  · obtain ⟨T0, a, ns, e, _⟩ := h
    rw [e]
    rfl
  · obtain ⟨T0, a, ns, rfl, hS, hl, hT, q⟩ := h
    obtain ⟨F, sb, hSF, hF⟩ := script_froz hS hT
    exact ⟨t_begun ⟨⟨K, mg, ⟨none, T0⟩⟩, F, H⟩ (spFold K mg) E a ns, (pss_cons (ps_set (i := 1) sc__law_begun.nd rfl (.inl rfl) (pe_disp (pps_cons pe_str (pe_call GF (hr.mono (by decide)) rfl mf kf bf .nil (passes_call (takes_of rfl rfl rfl rfl) (fun _ _ _ _ h => h)) (pa_cons (pv 0) pa_nil)) (pps_cons pe_str (pe_lst pa_nil) (pps_cons pe_str pe_int pps_nil))) rfl rfl (fun z => by cases z) (by decide)))
    (pss_cons (ps_dput (PL.Room.hu1 hr) (pv 1) pe_str (xn_lc (B := ⟨⟨none, T0⟩, F, H⟩) (own := [("cell", 2)]) rfl sc__law_begun.nd (PXI.toC (pxi_seqF 0 hSF (pv 0))) (blkOk_by rfl) (fun s H C cl fp => (pxg_name 2 sc__law_begun.nd rfl (.inl rfl))) (fun s H C cl fp => pxts_nil) (fun s H C cl fp => (px_if (pxt_cmp od_ge (px_var 2 (pv 2)) (px_op od_pow (px_c pe_int fun _ _ => .int _) (px_c pe_int fun _ _ => .int _)) (nomark _)) (px_var 2 (pv 2)) (px_c pe_int fun _ _ => .int _))) (by decide)).pe rfl)
    (pss_cons (ps_ret (pv 1)) pss_nil))), begun_pure sb hSF hl hT (fun b hb => hF b (by
      rcases hb with ⟨m, e, _⟩ | hb
      · cases e
      · exact hb)) q⟩
end LK
end
section
set_option Elab.async false
set_option linter.all false
set_option maxRecDepth 100000
set_option maxHeartbeats 4000000
set_option autoImplicit false
namespace LK
open PySem PySem.Spec PyProof.Rows L2 PL
theorem drw {ca : Str → Addr} {l : Int} {n : Nat} {Q : Nat → D → Prop} {E : ED} (hl : 0 < l) (hb : l.natAbs < 2 ^ 8000) (hw : n + 1 < 2 ^ 60) (q : ∀ (w' : Nat) (k : Int), w' ≤ n + 1 → 0 ≤ k → k < l → Q w' (.int k)) : sp__law_draw ca [stTok, .int l] n Q E :=
  ⟨l, rfl, ⟨hl, log_lt hb (by decide)⟩, hw, fun w' x h ⟨k, e, a, b⟩ => by subst e; exact q w' k h a b⟩
def sp__law_of (ca : Str → Addr) : SpD := GR (fun a : List D => [stTok, .list a]) (fun a => a ≠ [] ∧ a.length ≤ 1000) 1 (fun a x => x ∈ a)
theorem mo__law_of {ca : Str → Addr} : SpMono (sp__law_of ca) := GR.mo
theorem sc__law_of : FnScope ["m", "some"] ["m", "some"] (defScope s__law_of) := ⟨rfl, rfl, rfl, by decide +kernel, rfl, by decide +kernel, by decide +kernel⟩
theorem ok__law_of {w : World} {K : PySem.W.Frag} {mg : Str → Option Value} {base : Heap} {ca : Str → Addr} (T : Txt K mg ca) (h__law_draw : DOk prog w K mg base 2 "_law_draw" ["m", "limit"] (sp__law_draw ca)) : DOk prog w K mg base 3 "_law_of" ["m", "some"] (sp__law_of ca) := by
  refine dok T.a__law_of sc__law_of (GR.len fun _ => rfl) fun f cdv A outer s S F H E hr => ⟨_, (pxs_cons (pxs_ret (px_ix id_ix (px_var 1 (pv 1)) (px_callL lets_cx h__law_draw mo__law_draw (hr.mono (by decide)) (pxa_cons (px_var 0 (pv 0)) (pxa_cons (px_callB cd_len rfl T.b_len rfl (pxa_cons (px_var 1 (pv 1)) pxa_nil)) pxa_nil))) (fun _ _ => rfl))) pxs_nil), ?_⟩
  rintro ds n Q ⟨xs, rfl, ⟨h1, h2⟩, hw, q⟩
  simp [dVar, dC, dOp, dTest, dChain, dAnd, dOr, dNot, dAndV, dOrV, dNotV, dIf, dNil, dCons, dTup, dLst, dCallL, dRaiseL, dErr, dThunk, dNeg, dNoPart, dPart, dSl, dCB, dIsi, dNext, dSeq, dBreak, dCont, dIfS, dRet, dRetN, dDrop, dSet, dList, dLst', dSetO, dApp, dSetIx, dAsg, dPar, gNm, gNl, gCn, gTp, dSeqOf, dRange1, dRange2, dEnum, dZip, dFor, dForL, dYes, retD, startD, outD, F1_at, F2_at, F3_at, ex2, ex3, sizeLine_eq, rAddD, rMulD, rCmpD, rEqD', rIsD, rInD', rIxD, rLenD, rI0, rDivD, rModD, rPowD, rSubD, ty_n, ty_b, ty_i, ty_s, ty_l, ty_t, ty_d, it_n, it_b, it_i, it_s, it_l, it_t, it_d, fl_n, fl_b, fl_i, fl_s, nn_n, nn_b, nn_i, nn_s, nn_l, nn_t, ln_l, ln_t, ix0, ix1, ix2, ixl1, ixl2, ixl3, ii_n, ii_b, ii_i, ii_s, ii_l, ii_t, ii_d, ev_ii, ev_ss, ev_nn, ev_bb, ev_tt, ev_ll, ev_tn, ev_nt, ev_in, ev_ni, ev_it, ev_ti, ev_st, ev_ts, ev_si, ev_is, ea_nn, ea_nc, ea_cn, ea_cc, st_0_0, st_0_1, st_0_2, st_0_3, st_0_4, st_1_0, st_1_1, st_1_2, st_1_3, st_1_4, st_2_0, st_2_1, st_2_2, st_2_3, st_2_4, st_3_0, st_3_1, st_3_2, st_3_3, st_3_4, st_4_0, st_4_1, st_4_2, st_4_3, st_4_4, so_0, so_1, so_2, so_3, so_4] at q ⊢
  have l0 := List.length_pos_iff.mpr h1
  refine drw (by omega) (nb_le (A := 10) (by omega) (by decide)) hw fun w' k h3 h4 h5 => ?_
  have hi : k.toNat < xs.length := by omega
  refine ⟨xs[k.toNat], ?_, q _ _ h3 (List.getElem_mem hi)⟩
  unfold L2.atI L2.ixN
  rw [if_pos h4, if_pos h5]
  exact List.getElem?_eq_getElem hi
theorem ofw {ca : Str → Addr} {xs : List D} {n : Nat} {Q : Nat → D → Prop} {E : ED} (h1 : xs ≠ []) (h2 : xs.length ≤ 1000) (hw : n + 1 < 2 ^ 60) (q : ∀ (w' : Nat) (x : D), w' ≤ n + 1 → x ∈ xs → Q w' x) : sp__law_of ca [stTok, .list xs] n Q E :=
  ⟨xs, rfl, ⟨h1, h2⟩, hw, fun w' x h m => q w' x h m⟩
theorem gg_step {o f : Int} (ho : 0 ≤ o) (hf : 0 ≤ f) : gg f (o % f) = gg o f := by
  obtain ⟨a, rfl⟩ := Int.eq_ofNat_of_zero_le ho
  obtain ⟨b, rfl⟩ := Int.eq_ofNat_of_zero_le hf
  show ((Nat.gcd b (((a : Int) % (b : Int)).natAbs) : Nat) : Int) = ((Nat.gcd a b : Nat) : Int)
  rw [← Int.natCast_emod, Int.natAbs_natCast, Nat.gcd_comm b, ← Nat.gcd_rec, Nat.gcd_comm]
theorem gg_zero {o : Int} (ho : 0 < o) : gg o 0 = o := by
  show ((Nat.gcd o.natAbs 0 : Nat) : Int) = o
  rw [Nat.gcd_zero_right]
  omega
def sp__law_unit (ca : Str → Addr) : SpD := GS (fun a : Way => [a.d]) (fun a => a.ok) (fun a => .ok (one a))
theorem mo__law_unit {ca : Str → Addr} : SpMono (sp__law_unit ca) := GS.mo
theorem sc__law_unit : FnScope ["way"] ["way"] (defScope s__law_unit) := ⟨rfl, rfl, rfl, by decide +kernel, rfl, by decide +kernel, by decide +kernel⟩
theorem ok__law_unit {w : World} {K : PySem.W.Frag} {mg : Str → Option Value} {base : Heap} {ca : Str → Addr} (T : Txt K mg ca) : DOk prog w K mg base 1 "_law_unit" ["way"] (sp__law_unit ca) := by
  refine dok T.a__law_unit sc__law_unit (GS.len fun _ => rfl) fun f cdv A outer s S F H E hr => ⟨_, (pxs_cons (pxs_ret (px_if (pxt_cmp (od_eq (Room.eqU hr)) (px_ix id_ix (px_var 0 (pv 0)) (px_c pe_int fun _ _ => .int _) (fun _ _ => rfl)) (px_c pe_str fun _ _ => .str _) (nomark _)) (px_tup (pxa_cons (px_c pe_int fun _ _ => .int _) (pxa_cons (px_c pe_int fun _ _ => .int _) pxa_nil))) (px_if (pxt_cmp (od_eq (Room.eqU hr)) (px_ix id_ix (px_var 0 (pv 0)) (px_c pe_int fun _ _ => .int _) (fun _ _ => rfl)) (px_c pe_str fun _ _ => .str _) (nomark _)) (px_c pe_int fun _ _ => .int _) (px_c pe_int fun _ _ => .int _)))) pxs_nil), ?_⟩
  rintro ds n Q ⟨W, rfl, hW, q⟩
  cases W <;> simp [dVar, dC, dOp, dTest, dChain, dAnd, dOr, dNot, dAndV, dOrV, dNotV, dIf, dNil, dCons, dTup, dLst, dCallL, dRaiseL, dErr, dThunk, dNeg, dNoPart, dPart, dSl, dCB, dIsi, dNext, dSeq, dBreak, dCont, dIfS, dRet, dRetN, dDrop, dSet, dList, dLst', dSetO, dApp, dSetIx, dAsg, dPar, gNm, gNl, gCn, gTp, dSeqOf, dRange1, dRange2, dEnum, dZip, dFor, dForL, dYes, retD, startD, outD, F1_at, F2_at, F3_at, ex2, ex3, sizeLine_eq, rAddD, rMulD, rCmpD, rEqD', rIsD, rInD', rIxD, rLenD, rI0, rDivD, rModD, rPowD, rSubD, ty_n, ty_b, ty_i, ty_s, ty_l, ty_t, ty_d, it_n, it_b, it_i, it_s, it_l, it_t, it_d, fl_n, fl_b, fl_i, fl_s, nn_n, nn_b, nn_i, nn_s, nn_l, nn_t, ln_l, ln_t, ix0, ix1, ix2, ixl1, ixl2, ixl3, ii_n, ii_b, ii_i, ii_s, ii_l, ii_t, ii_d, ev_ii, ev_ss, ev_nn, ev_bb, ev_tt, ev_ll, ev_tn, ev_nt, ev_in, ev_ni, ev_it, ev_ti, ev_st, ev_ts, ev_si, ev_is, ea_nn, ea_nc, ea_cn, ea_cc, st_0_0, st_0_1, st_0_2, st_0_3, st_0_4, st_1_0, st_1_1, st_1_2, st_1_3, st_1_4, st_2_0, st_2_1, st_2_2, st_2_3, st_2_4, st_3_0, st_3_1, st_3_2, st_3_3, st_3_4, st_4_0, st_4_1, st_4_2, st_4_3, st_4_4, so_0, so_1, so_2, so_3, so_4, shp, PyData.canLay0, PyData.canLayAll0, PyData.depth, PyData.depthAll, Way.d, one] at q ⊢ <;> exact q
def sp__law_is_whole (ca : Str → Addr) : SpD := F1 (fun x => (tyD x).isSome = true) (fun x => .ok (.bool (isI x)))
theorem mo__law_is_whole {ca : Str → Addr} : SpMono (sp__law_is_whole ca) := F1.mo
theorem sc__law_is_whole : FnScope ["value"] ["value"] (defScope s__law_is_whole) := ⟨rfl, rfl, rfl, by decide +kernel, rfl, by decide +kernel, by decide +kernel⟩
theorem ok__law_is_whole {w : World} {K : PySem.W.Frag} {mg : Str → Option Value} {base : Heap} {ca : Str → Addr} (T : Txt K mg ca) : DOk prog w K mg base 1 "_law_is_whole" ["value"] (sp__law_is_whole ca) := by
  refine dok T.a__law_is_whole sc__law_is_whole F1.len fun f cdv A outer s S F H E hr => ⟨_, (pxs_cons (pxs_ret (px_and (px_isi (by decide) rfl T.b_isinstance rfl T.b_int rfl (px_var 0 (pv 0))) (px_one (px_not (px_isi (by decide) rfl T.b_isinstance rfl T.b_bool rfl (px_var 0 (pv 0))))))) pxs_nil), ?_⟩
  rintro ds n Q ⟨x, rfl, hx, q⟩
  dsimp only at hx q
  cases x <;> simp [dVar, dC, dOp, dTest, dChain, dAnd, dOr, dNot, dAndV, dOrV, dNotV, dIf, dNil, dCons, dTup, dLst, dCallL, dRaiseL, dErr, dThunk, dNeg, dNoPart, dPart, dSl, dCB, dIsi, dNext, dSeq, dBreak, dCont, dIfS, dRet, dRetN, dDrop, dSet, dList, dLst', dSetO, dApp, dSetIx, dAsg, dPar, gNm, gNl, gCn, gTp, dSeqOf, dRange1, dRange2, dEnum, dZip, dFor, dForL, dYes, retD, startD, outD, F1_at, F2_at, F3_at, ex2, ex3, sizeLine_eq, rAddD, rMulD, rCmpD, rEqD', rIsD, rInD', rIxD, rLenD, rI0, rDivD, rModD, rPowD, rSubD, ty_n, ty_b, ty_i, ty_s, ty_l, ty_t, ty_d, it_n, it_b, it_i, it_s, it_l, it_t, it_d, fl_n, fl_b, fl_i, fl_s, nn_n, nn_b, nn_i, nn_s, nn_l, nn_t, ln_l, ln_t, ix0, ix1, ix2, ixl1, ixl2, ixl3, ii_n, ii_b, ii_i, ii_s, ii_l, ii_t, ii_d, ev_ii, ev_ss, ev_nn, ev_bb, ev_tt, ev_ll, ev_tn, ev_nt, ev_in, ev_ni, ev_it, ev_ti, ev_st, ev_ts, ev_si, ev_is, ea_nn, ea_nc, ea_cn, ea_cc, st_0_0, st_0_1, st_0_2, st_0_3, st_0_4, st_1_0, st_1_1, st_1_2, st_1_3, st_1_4, st_2_0, st_2_1, st_2_2, st_2_3, st_2_4, st_3_0, st_3_1, st_3_2, st_3_3, st_3_4, st_4_0, st_4_1, st_4_2, st_4_3, st_4_4, so_0, so_1, so_2, so_3, so_4, shp, PyData.canLay0, PyData.canLayAll0, PyData.depth, PyData.depthAll] at hx q ⊢ <;> exact q
def sp__law_lowest (ca : Str → Addr) : SpD := GS (fun a : Int × Int => [.int a.1, .int a.2]) (fun a => 0 < a.1 ∧ 0 < a.2 ∧ a.2.natAbs < 2 ^ 8000) (fun a => .ok (low a.1 a.2))
theorem mo__law_lowest {ca : Str → Addr} : SpMono (sp__law_lowest ca) := GS.mo
theorem sc__law_lowest : FnScope ["part", "whole", "one", "far"] ["part", "whole"] (defScope s__law_lowest) := ⟨rfl, rfl, rfl, by decide +kernel, rfl, by decide +kernel, by decide +kernel⟩
theorem ok__law_lowest {w : World} {K : PySem.W.Frag} {mg : Str → Option Value} {base : Heap} {ca : Str → Addr} (T : Txt K mg ca) : DOk prog w K mg base 1 "_law_lowest" ["part", "whole"] (sp__law_lowest ca) := by
  refine dok T.a__law_lowest sc__law_lowest (GS.len fun _ => rfl) fun f cdv A outer s S F H E hr => ⟨_, (pxs_cons (pxs_par 2 3 rfl sc__law_lowest.nd rfl rfl (by decide) rfl rfl (pxa_cons (px_callB cd_abs rfl T.b_abs rfl (pxa_cons (px_var 0 (pv 0)) pxa_nil)) (pxa_cons (px_var 1 (pv 1)) pxa_nil)) rfl) (pxs_cons (pxs_while passes_cx (pxt_cmp (od_ne (Room.eqU hr)) (px_var 3 (pv 3)) (px_c pe_int fun _ _ => .int _) (nomark _)) (pxs_cons (pxs_par 2 3 rfl sc__law_lowest.nd rfl rfl (by decide) rfl rfl (pxa_cons (px_var 3 (pv 3)) (pxa_cons (px_op od_mod (px_callTy cd_int rfl T.b_int rfl (pxa_cons (px_var 2 (pv 2)) pxa_nil)) (px_var 3 (pv 3))) pxa_nil)) rfl) pxs_nil)) (pxs_cons (pxs_ret (px_tup (pxa_cons (px_op od_div (px_var 0 (pv 0)) (px_var 2 (pv 2))) (pxa_cons (px_op od_div (px_var 1 (pv 1)) (px_var 2 (pv 2))) pxa_nil)))) pxs_nil))), ?_⟩
  rintro ds n Q ⟨⟨p, r⟩, rfl, ⟨h0, h1, h2⟩, q⟩
  dsimp only at h0 h1 h2 q ⊢
  have b := gg_bits (p := p) h1 h2
  have g0 := gg_pos (p := p) h1
  have np : ¬ p < 0 := by omega
  simp [dVar, dC, dOp, dTest, dChain, dAnd, dOr, dNot, dAndV, dOrV, dNotV, dIf, dNil, dCons, dTup, dLst, dCallL, dRaiseL, dErr, dThunk, dNeg, dNoPart, dPart, dSl, dCB, dIsi, dNext, dSeq, dBreak, dCont, dIfS, dRet, dRetN, dDrop, dSet, dList, dLst', dSetO, dApp, dSetIx, dAsg, dPar, gNm, gNl, gCn, gTp, dSeqOf, dRange1, dRange2, dEnum, dZip, dFor, dForL, dYes, retD, startD, outD, F1_at, F2_at, F3_at, ex2, ex3, sizeLine_eq, rAddD, rMulD, rCmpD, rEqD', rIsD, rInD', rIxD, rLenD, rI0, rDivD, rModD, rPowD, rSubD, ty_n, ty_b, ty_i, ty_s, ty_l, ty_t, ty_d, it_n, it_b, it_i, it_s, it_l, it_t, it_d, fl_n, fl_b, fl_i, fl_s, nn_n, nn_b, nn_i, nn_s, nn_l, nn_t, ln_l, ln_t, ix0, ix1, ix2, ixl1, ixl2, ixl3, ii_n, ii_b, ii_i, ii_s, ii_l, ii_t, ii_d, ev_ii, ev_ss, ev_nn, ev_bb, ev_tt, ev_ll, ev_tn, ev_nt, ev_in, ev_ni, ev_it, ev_ti, ev_st, ev_ts, ev_si, ev_is, ea_nn, ea_nc, ea_cn, ea_cc, st_0_0, st_0_1, st_0_2, st_0_3, st_0_4, st_1_0, st_1_1, st_1_2, st_1_3, st_1_4, st_2_0, st_2_1, st_2_2, st_2_3, st_2_4, st_3_0, st_3_1, st_3_2, st_3_3, st_3_4, st_4_0, st_4_1, st_4_2, st_4_3, st_4_4, so_0, so_1, so_2, so_3, so_4, dWhile, np] at q ⊢
  refine ⟨_, wh_inv (fun m e => ∃ o f : Int, e = ⟨[.d (.int p), .d (.int r), .d (.int o), .d (.int f)], n⟩ ∧ 0 < o ∧ 0 ≤ f ∧ f.toNat ≤ m ∧ gg o f = gg p r) ?_ r.toNat _ ⟨p, r, rfl, h0, by omega, Nat.le_refl _, rfl⟩⟩
  rintro m e K ⟨o, f, rfl, o1, f1, f2, g1⟩ k
  by_cases hf : f = 0
  · subst hf
    rw [gg_zero o1] at g1
    subst g1
    simp [dVar, dC, dOp, dTest, dChain, dAnd, dOr, dNot, dAndV, dOrV, dNotV, dIf, dNil, dCons, dTup, dLst, dCallL, dRaiseL, dErr, dThunk, dNeg, dNoPart, dPart, dSl, dCB, dIsi, dNext, dSeq, dBreak, dCont, dIfS, dRet, dRetN, dDrop, dSet, dList, dLst', dSetO, dApp, dSetIx, dAsg, dPar, gNm, gNl, gCn, gTp, dSeqOf, dRange1, dRange2, dEnum, dZip, dFor, dForL, dYes, retD, startD, outD, F1_at, F2_at, F3_at, ex2, ex3, sizeLine_eq, rAddD, rMulD, rCmpD, rEqD', rIsD, rInD', rIxD, rLenD, rI0, rDivD, rModD, rPowD, rSubD, ty_n, ty_b, ty_i, ty_s, ty_l, ty_t, ty_d, it_n, it_b, it_i, it_s, it_l, it_t, it_d, fl_n, fl_b, fl_i, fl_s, nn_n, nn_b, nn_i, nn_s, nn_l, nn_t, ln_l, ln_t, ix0, ix1, ix2, ixl1, ixl2, ixl3, ii_n, ii_b, ii_i, ii_s, ii_l, ii_t, ii_d, ev_ii, ev_ss, ev_nn, ev_bb, ev_tt, ev_ll, ev_tn, ev_nt, ev_in, ev_ni, ev_it, ev_ti, ev_st, ev_ts, ev_si, ev_is, ea_nn, ea_nc, ea_cn, ea_cc, st_0_0, st_0_1, st_0_2, st_0_3, st_0_4, st_1_0, st_1_1, st_1_2, st_1_3, st_1_4, st_2_0, st_2_1, st_2_2, st_2_3, st_2_4, st_3_0, st_3_1, st_3_2, st_3_3, st_3_4, st_4_0, st_4_1, st_4_2, st_4_3, st_4_4, so_0, so_1, so_2, so_3, so_4, shp, PyData.canLay0, PyData.canLayAll0, PyData.depth, PyData.depthAll, o1]
    refine ⟨?_, q⟩
    · exact Nat.lt_trans (log_lt b (by decide)) (by decide)
  · simp [dVar, dC, dOp, dTest, dChain, dAnd, dOr, dNot, dAndV, dOrV, dNotV, dIf, dNil, dCons, dTup, dLst, dCallL, dRaiseL, dErr, dThunk, dNeg, dNoPart, dPart, dSl, dCB, dIsi, dNext, dSeq, dBreak, dCont, dIfS, dRet, dRetN, dDrop, dSet, dList, dLst', dSetO, dApp, dSetIx, dAsg, dPar, gNm, gNl, gCn, gTp, dSeqOf, dRange1, dRange2, dEnum, dZip, dFor, dForL, dYes, retD, startD, outD, F1_at, F2_at, F3_at, ex2, ex3, sizeLine_eq, rAddD, rMulD, rCmpD, rEqD', rIsD, rInD', rIxD, rLenD, rI0, rDivD, rModD, rPowD, rSubD, ty_n, ty_b, ty_i, ty_s, ty_l, ty_t, ty_d, it_n, it_b, it_i, it_s, it_l, it_t, it_d, fl_n, fl_b, fl_i, fl_s, nn_n, nn_b, nn_i, nn_s, nn_l, nn_t, ln_l, ln_t, ix0, ix1, ix2, ixl1, ixl2, ixl3, ii_n, ii_b, ii_i, ii_s, ii_l, ii_t, ii_d, ev_ii, ev_ss, ev_nn, ev_bb, ev_tt, ev_ll, ev_tn, ev_nt, ev_in, ev_ni, ev_it, ev_ti, ev_st, ev_ts, ev_si, ev_is, ea_nn, ea_nc, ea_cn, ea_cc, st_0_0, st_0_1, st_0_2, st_0_3, st_0_4, st_1_0, st_1_1, st_1_2, st_1_3, st_1_4, st_2_0, st_2_1, st_2_2, st_2_3, st_2_4, st_3_0, st_3_1, st_3_2, st_3_3, st_3_4, st_4_0, st_4_1, st_4_2, st_4_3, st_4_4, so_0, so_1, so_2, so_3, so_4, shp, PyData.canLay0, PyData.canLayAll0, PyData.depth, PyData.depthAll, hf]
    refine ⟨by omega, k _ ⟨m - 1, by omega, f, o % f, rfl, by omega, Int.emod_nonneg _ hf, ?_, ?_⟩⟩
    · have := Int.emod_lt_of_pos o (show 0 < f by omega)
      omega
    · rw [gg_step (by omega) f1, g1]
def sp__law_plus (ca : Str → Addr) : SpD := GS (fun a : Way × D × D => [a.1.d, a.2.1, a.2.2]) (fun a => a.1.ok ∧ okNum a.1 a.2.1 ∧ okNum a.1 a.2.2 ∧ bd 2000 a.2.1 ∧ bd 2000 a.2.2) (fun a => .ok (addD a.1 a.2.1 a.2.2))
theorem mo__law_plus {ca : Str → Addr} : SpMono (sp__law_plus ca) := GS.mo
theorem sc__law_plus : FnScope ["way", "one", "far", "left"] ["way", "one", "far"] (defScope s__law_plus) := ⟨rfl, rfl, rfl, by decide +kernel, rfl, by decide +kernel, by decide +kernel⟩
theorem ok__law_plus {w : World} {K : PySem.W.Frag} {mg : Str → Option Value} {base : Heap} {ca : Str → Addr} (T : Txt K mg ca) (h__law_lowest : DOk prog w K mg base 1 "_law_lowest" ["part", "whole"] (sp__law_lowest ca)) : DOk prog w K mg base 2 "_law_plus" ["way", "one", "far"] (sp__law_plus ca) := by
  refine dok T.a__law_plus sc__law_plus (GS.len fun _ => rfl) fun f cdv A outer s S F H E hr => ⟨_, (pxs_cons (pxs_if (PXW.pt (pxw_or (pxt_cmp od_is (px_var 1 (pv 1)) (px_c pe_non fun _ _ => .non) (nomark _)) (pxw_or1 (pxt_cmp od_is (px_var 2 (pv 2)) (px_c pe_non fun _ _ => .non) (nomark _))))) (pxs_cons (pxs_ret (px_if (pxt_cmp od_is (px_var 1 (pv 1)) (px_c pe_non fun _ _ => .non) (nomark _)) (px_var 2 (pv 2)) (px_var 1 (pv 1)))) pxs_nil) pxs_nil) (pxs_cons (pxs_if (pxt_cmp (od_eq (Room.eqU hr)) (px_ix id_ix (px_var 0 (pv 0)) (px_c pe_int fun _ _ => .int _) (fun _ _ => rfl)) (px_c pe_str fun _ _ => .str _) (nomark _)) (pxs_cons (pxs_ret (px_c pe_int fun _ _ => .int _)) pxs_nil) pxs_nil) (pxs_cons (pxs_if (pxt_cmp (od_eq (Room.eqU hr)) (px_ix id_ix (px_var 0 (pv 0)) (px_c pe_int fun _ _ => .int _) (fun _ _ => rfl)) (px_c pe_str fun _ _ => .str _) (nomark _)) (pxs_cons (pxs_ret (px_op od_add (px_var 1 (pv 1)) (px_var 2 (pv 2)))) pxs_nil) pxs_nil) (pxs_cons (pxs_if (pxt_cmp (od_eq (Room.eqU hr)) (px_ix id_ix (px_var 0 (pv 0)) (px_c pe_int fun _ _ => .int _) (fun _ _ => rfl)) (px_c pe_str fun _ _ => .str _) (nomark _)) (pxs_cons (pxs_ret (px_callL lets_cx h__law_lowest mo__law_lowest (hr.mono (by decide)) (pxa_cons (px_op od_add (px_op od_mul (px_ix id_ix (px_var 1 (pv 1)) (px_c pe_int fun _ _ => .int _) (fun _ _ => rfl)) (px_ix id_ix (px_var 2 (pv 2)) (px_c pe_int fun _ _ => .int _) (fun _ _ => rfl))) (px_op od_mul (px_ix id_ix (px_var 2 (pv 2)) (px_c pe_int fun _ _ => .int _) (fun _ _ => rfl)) (px_ix id_ix (px_var 1 (pv 1)) (px_c pe_int fun _ _ => .int _) (fun _ _ => rfl)))) (pxa_cons (px_op od_mul (px_ix id_ix (px_var 1 (pv 1)) (px_c pe_int fun _ _ => .int _) (fun _ _ => rfl)) (px_ix id_ix (px_var 2 (pv 2)) (px_c pe_int fun _ _ => .int _) (fun _ _ => rfl))) pxa_nil)))) pxs_nil) pxs_nil) (pxs_cons (pxs_if (pxt_cmp (od_eq (Room.eqU hr)) (px_ix id_ix (px_var 0 (pv 0)) (px_c pe_int fun _ _ => .int _) (fun _ _ => rfl)) (px_c pe_str fun _ _ => .str _) (nomark _)) (pxs_cons (pxs_ret (px_callB (cd_min2 rfl) rfl T.b_min rfl (pxa_cons (px_var 1 (pv 1)) (pxa_cons (px_var 2 (pv 2)) pxa_nil)))) pxs_nil) pxs_nil) (pxs_cons (pxs_set 3 sc__law_plus.nd rfl (.inl rfl) (px_op od_mod (px_callTy cd_int rfl T.b_int rfl (pxa_cons (px_op od_add (px_var 1 (pv 1)) (px_var 2 (pv 2))) pxa_nil)) (px_ix id_ix (px_var 0 (pv 0)) (px_c pe_int fun _ _ => .int _) (fun _ _ => rfl)))) (pxs_cons (pxs_ret (px_if (pxt_cmp od_gt (px_var 3 (pv 3)) (px_c pe_int fun _ _ => .int _) (nomark _)) (px_var 3 (pv 3)) (px_c pe_non fun _ _ => .non))) pxs_nil))))))), ?_⟩
  rintro ds n Q ⟨⟨W, x, y⟩, rfl, ⟨hW, hx, hy, bx, bY⟩, q⟩
  dsimp only at hW hx hy bx bY q ⊢
  rcases non_cases hx with ⟨nx, rfl⟩ | ⟨nx, kx⟩
  · rw [add_nl] at q
    rcases non_cases hy with ⟨ny, rfl⟩ | ⟨ny, ky⟩
    · simp [dVar, dC, dOp, dTest, dChain, dAnd, dOr, dNot, dAndV, dOrV, dNotV, dIf, dNil, dCons, dTup, dLst, dCallL, dRaiseL, dErr, dThunk, dNeg, dNoPart, dPart, dSl, dCB, dIsi, dNext, dSeq, dBreak, dCont, dIfS, dRet, dRetN, dDrop, dSet, dList, dLst', dSetO, dApp, dSetIx, dAsg, dPar, gNm, gNl, gCn, gTp, dSeqOf, dRange1, dRange2, dEnum, dZip, dFor, dForL, dYes, retD, startD, outD, F1_at, F2_at, F3_at, ex2, ex3, sizeLine_eq, rAddD, rMulD, rCmpD, rEqD', rIsD, rInD', rIxD, rLenD, rI0, rDivD, rModD, rPowD, rSubD, ty_n, ty_b, ty_i, ty_s, ty_l, ty_t, ty_d, it_n, it_b, it_i, it_s, it_l, it_t, it_d, fl_n, fl_b, fl_i, fl_s, nn_n, nn_b, nn_i, nn_s, nn_l, nn_t, ln_l, ln_t, ix0, ix1, ix2, ixl1, ixl2, ixl3, ii_n, ii_b, ii_i, ii_s, ii_l, ii_t, ii_d, ev_ii, ev_ss, ev_nn, ev_bb, ev_tt, ev_ll, ev_tn, ev_nt, ev_in, ev_ni, ev_it, ev_ti, ev_st, ev_ts, ev_si, ev_is, ea_nn, ea_nc, ea_cn, ea_cc, st_0_0, st_0_1, st_0_2, st_0_3, st_0_4, st_1_0, st_1_1, st_1_2, st_1_3, st_1_4, st_2_0, st_2_1, st_2_2, st_2_3, st_2_4, st_3_0, st_3_1, st_3_2, st_3_3, st_3_4, st_4_0, st_4_1, st_4_2, st_4_3, st_4_4, so_0, so_1, so_2, so_3, so_4] at q ⊢
      exact q
    · simp [dVar, dC, dOp, dTest, dChain, dAnd, dOr, dNot, dAndV, dOrV, dNotV, dIf, dNil, dCons, dTup, dLst, dCallL, dRaiseL, dErr, dThunk, dNeg, dNoPart, dPart, dSl, dCB, dIsi, dNext, dSeq, dBreak, dCont, dIfS, dRet, dRetN, dDrop, dSet, dList, dLst', dSetO, dApp, dSetIx, dAsg, dPar, gNm, gNl, gCn, gTp, dSeqOf, dRange1, dRange2, dEnum, dZip, dFor, dForL, dYes, retD, startD, outD, F1_at, F2_at, F3_at, ex2, ex3, sizeLine_eq, rAddD, rMulD, rCmpD, rEqD', rIsD, rInD', rIxD, rLenD, rI0, rDivD, rModD, rPowD, rSubD, ty_n, ty_b, ty_i, ty_s, ty_l, ty_t, ty_d, it_n, it_b, it_i, it_s, it_l, it_t, it_d, fl_n, fl_b, fl_i, fl_s, nn_n, nn_b, nn_i, nn_s, nn_l, nn_t, ln_l, ln_t, ix0, ix1, ix2, ixl1, ixl2, ixl3, ii_n, ii_b, ii_i, ii_s, ii_l, ii_t, ii_d, ev_ii, ev_ss, ev_nn, ev_bb, ev_tt, ev_ll, ev_tn, ev_nt, ev_in, ev_ni, ev_it, ev_ti, ev_st, ev_ts, ev_si, ev_is, ea_nn, ea_nc, ea_cn, ea_cc, st_0_0, st_0_1, st_0_2, st_0_3, st_0_4, st_1_0, st_1_1, st_1_2, st_1_3, st_1_4, st_2_0, st_2_1, st_2_2, st_2_3, st_2_4, st_3_0, st_3_1, st_3_2, st_3_3, st_3_4, st_4_0, st_4_1, st_4_2, st_4_3, st_4_4, so_0, so_1, so_2, so_3, so_4, ny] at q ⊢
      exact q
  rcases non_cases hy with ⟨ny, rfl⟩ | ⟨ny, ky⟩
  · rw [add_nr] at q
    simp [dVar, dC, dOp, dTest, dChain, dAnd, dOr, dNot, dAndV, dOrV, dNotV, dIf, dNil, dCons, dTup, dLst, dCallL, dRaiseL, dErr, dThunk, dNeg, dNoPart, dPart, dSl, dCB, dIsi, dNext, dSeq, dBreak, dCont, dIfS, dRet, dRetN, dDrop, dSet, dList, dLst', dSetO, dApp, dSetIx, dAsg, dPar, gNm, gNl, gCn, gTp, dSeqOf, dRange1, dRange2, dEnum, dZip, dFor, dForL, dYes, retD, startD, outD, F1_at, F2_at, F3_at, ex2, ex3, sizeLine_eq, rAddD, rMulD, rCmpD, rEqD', rIsD, rInD', rIxD, rLenD, rI0, rDivD, rModD, rPowD, rSubD, ty_n, ty_b, ty_i, ty_s, ty_l, ty_t, ty_d, it_n, it_b, it_i, it_s, it_l, it_t, it_d, fl_n, fl_b, fl_i, fl_s, nn_n, nn_b, nn_i, nn_s, nn_l, nn_t, ln_l, ln_t, ix0, ix1, ix2, ixl1, ixl2, ixl3, ii_n, ii_b, ii_i, ii_s, ii_l, ii_t, ii_d, ev_ii, ev_ss, ev_nn, ev_bb, ev_tt, ev_ll, ev_tn, ev_nt, ev_in, ev_ni, ev_it, ev_ti, ev_st, ev_ts, ev_si, ev_is, ea_nn, ea_nc, ea_cn, ea_cc, st_0_0, st_0_1, st_0_2, st_0_3, st_0_4, st_1_0, st_1_1, st_1_2, st_1_3, st_1_4, st_2_0, st_2_1, st_2_2, st_2_3, st_2_4, st_3_0, st_3_1, st_3_2, st_3_3, st_3_4, st_4_0, st_4_1, st_4_2, st_4_3, st_4_4, so_0, so_1, so_2, so_3, so_4, nx] at q ⊢
    exact q
  by_cases c : W = .ch
  · subst c
    obtain ⟨p, s, rfl, p1, s1, _⟩ := num_fr kx
    obtain ⟨r, t, rfl, r1, t1, _⟩ := num_fr ky
    obtain ⟨bp, bs⟩ := bx
    obtain ⟨br, bt⟩ := bY
    have m1 := log_mul (nb_le bp (by decide)) (nb_le bt (by decide))
    have m2 := log_mul (nb_le br (by decide)) (nb_le bs (by decide))
    have m3 := log_mul (nb_le bs (by decide)) (nb_le bt (by decide))
    have m4 := log_mul (nb_le bp (by decide)) (nb_le br (by decide))
    have pos := Int.mul_pos s1 t1
    have num : 0 < p * t + r * s := by
      have := Int.mul_pos p1 t1
      have := Int.mul_pos r1 s1
      omega
    have numM := Int.mul_pos p1 r1
    have bn : (s * t).natAbs < 2 ^ 8000 := nb_le (nb_mul bs bt) (by decide)
    simp [dVar, dC, dOp, dTest, dChain, dAnd, dOr, dNot, dAndV, dOrV, dNotV, dIf, dNil, dCons, dTup, dLst, dCallL, dRaiseL, dErr, dThunk, dNeg, dNoPart, dPart, dSl, dCB, dIsi, dNext, dSeq, dBreak, dCont, dIfS, dRet, dRetN, dDrop, dSet, dList, dLst', dSetO, dApp, dSetIx, dAsg, dPar, gNm, gNl, gCn, gTp, dSeqOf, dRange1, dRange2, dEnum, dZip, dFor, dForL, dYes, retD, startD, outD, F1_at, F2_at, F3_at, ex2, ex3, sizeLine_eq, rAddD, rMulD, rCmpD, rEqD', rIsD, rInD', rIxD, rLenD, rI0, rDivD, rModD, rPowD, rSubD, ty_n, ty_b, ty_i, ty_s, ty_l, ty_t, ty_d, it_n, it_b, it_i, it_s, it_l, it_t, it_d, fl_n, fl_b, fl_i, fl_s, nn_n, nn_b, nn_i, nn_s, nn_l, nn_t, ln_l, ln_t, ix0, ix1, ix2, ixl1, ixl2, ixl3, ii_n, ii_b, ii_i, ii_s, ii_l, ii_t, ii_d, ev_ii, ev_ss, ev_nn, ev_bb, ev_tt, ev_ll, ev_tn, ev_nt, ev_in, ev_ni, ev_it, ev_ti, ev_st, ev_ts, ev_si, ev_is, ea_nn, ea_nc, ea_cn, ea_cc, st_0_0, st_0_1, st_0_2, st_0_3, st_0_4, st_1_0, st_1_1, st_1_2, st_1_3, st_1_4, st_2_0, st_2_1, st_2_2, st_2_3, st_2_4, st_3_0, st_3_1, st_3_2, st_3_3, st_3_4, st_4_0, st_4_1, st_4_2, st_4_3, st_4_4, so_0, so_1, so_2, so_3, so_4, shp, PyData.canLay0, PyData.canLayAll0, PyData.depth, PyData.depthAll, Way.d, addD, m1, m2, m3, m4] at q ⊢
    exact ⟨(p * t + r * s, s * t), rfl, ⟨num, pos, bn⟩, q⟩
  · obtain ⟨i, rfl⟩ := num_int c kx
    obtain ⟨j, rfl⟩ := num_int c ky
    have m5 := log_mul (nb_le (show i.natAbs < 2 ^ 2000 from bx) (by decide)) (nb_le (show j.natAbs < 2 ^ 2000 from bY) (by decide))
    cases W with
    | ch => exact absurd rfl c
    | lf m =>
      have hm : 0 < m := by
        have := hW.1
        omega
      by_cases h : 0 < (i + j) % m
      · simp [dVar, dC, dOp, dTest, dChain, dAnd, dOr, dNot, dAndV, dOrV, dNotV, dIf, dNil, dCons, dTup, dLst, dCallL, dRaiseL, dErr, dThunk, dNeg, dNoPart, dPart, dSl, dCB, dIsi, dNext, dSeq, dBreak, dCont, dIfS, dRet, dRetN, dDrop, dSet, dList, dLst', dSetO, dApp, dSetIx, dAsg, dPar, gNm, gNl, gCn, gTp, dSeqOf, dRange1, dRange2, dEnum, dZip, dFor, dForL, dYes, retD, startD, outD, F1_at, F2_at, F3_at, ex2, ex3, sizeLine_eq, rAddD, rMulD, rCmpD, rEqD', rIsD, rInD', rIxD, rLenD, rI0, rDivD, rModD, rPowD, rSubD, ty_n, ty_b, ty_i, ty_s, ty_l, ty_t, ty_d, it_n, it_b, it_i, it_s, it_l, it_t, it_d, fl_n, fl_b, fl_i, fl_s, nn_n, nn_b, nn_i, nn_s, nn_l, nn_t, ln_l, ln_t, ix0, ix1, ix2, ixl1, ixl2, ixl3, ii_n, ii_b, ii_i, ii_s, ii_l, ii_t, ii_d, ev_ii, ev_ss, ev_nn, ev_bb, ev_tt, ev_ll, ev_tn, ev_nt, ev_in, ev_ni, ev_it, ev_ti, ev_st, ev_ts, ev_si, ev_is, ea_nn, ea_nc, ea_cn, ea_cc, st_0_0, st_0_1, st_0_2, st_0_3, st_0_4, st_1_0, st_1_1, st_1_2, st_1_3, st_1_4, st_2_0, st_2_1, st_2_2, st_2_3, st_2_4, st_3_0, st_3_1, st_3_2, st_3_3, st_3_4, st_4_0, st_4_1, st_4_2, st_4_3, st_4_4, so_0, so_1, so_2, so_3, so_4, shp, PyData.canLay0, PyData.canLayAll0, PyData.depth, PyData.depthAll, Way.d, addD, addI, left, h, hm, m5] at q ⊢
        exact q
      · simp [dVar, dC, dOp, dTest, dChain, dAnd, dOr, dNot, dAndV, dOrV, dNotV, dIf, dNil, dCons, dTup, dLst, dCallL, dRaiseL, dErr, dThunk, dNeg, dNoPart, dPart, dSl, dCB, dIsi, dNext, dSeq, dBreak, dCont, dIfS, dRet, dRetN, dDrop, dSet, dList, dLst', dSetO, dApp, dSetIx, dAsg, dPar, gNm, gNl, gCn, gTp, dSeqOf, dRange1, dRange2, dEnum, dZip, dFor, dForL, dYes, retD, startD, outD, F1_at, F2_at, F3_at, ex2, ex3, sizeLine_eq, rAddD, rMulD, rCmpD, rEqD', rIsD, rInD', rIxD, rLenD, rI0, rDivD, rModD, rPowD, rSubD, ty_n, ty_b, ty_i, ty_s, ty_l, ty_t, ty_d, it_n, it_b, it_i, it_s, it_l, it_t, it_d, fl_n, fl_b, fl_i, fl_s, nn_n, nn_b, nn_i, nn_s, nn_l, nn_t, ln_l, ln_t, ix0, ix1, ix2, ixl1, ixl2, ixl3, ii_n, ii_b, ii_i, ii_s, ii_l, ii_t, ii_d, ev_ii, ev_ss, ev_nn, ev_bb, ev_tt, ev_ll, ev_tn, ev_nt, ev_in, ev_ni, ev_it, ev_ti, ev_st, ev_ts, ev_si, ev_is, ea_nn, ea_nc, ea_cn, ea_cc, st_0_0, st_0_1, st_0_2, st_0_3, st_0_4, st_1_0, st_1_1, st_1_2, st_1_3, st_1_4, st_2_0, st_2_1, st_2_2, st_2_3, st_2_4, st_3_0, st_3_1, st_3_2, st_3_3, st_3_4, st_4_0, st_4_1, st_4_2, st_4_3, st_4_4, so_0, so_1, so_2, so_3, so_4, shp, PyData.canLay0, PyData.canLayAll0, PyData.depth, PyData.depthAll, Way.d, addD, addI, left, h, hm, m5] at q ⊢
        exact q
    | _ => simp [dVar, dC, dOp, dTest, dChain, dAnd, dOr, dNot, dAndV, dOrV, dNotV, dIf, dNil, dCons, dTup, dLst, dCallL, dRaiseL, dErr, dThunk, dNeg, dNoPart, dPart, dSl, dCB, dIsi, dNext, dSeq, dBreak, dCont, dIfS, dRet, dRetN, dDrop, dSet, dList, dLst', dSetO, dApp, dSetIx, dAsg, dPar, gNm, gNl, gCn, gTp, dSeqOf, dRange1, dRange2, dEnum, dZip, dFor, dForL, dYes, retD, startD, outD, F1_at, F2_at, F3_at, ex2, ex3, sizeLine_eq, rAddD, rMulD, rCmpD, rEqD', rIsD, rInD', rIxD, rLenD, rI0, rDivD, rModD, rPowD, rSubD, ty_n, ty_b, ty_i, ty_s, ty_l, ty_t, ty_d, it_n, it_b, it_i, it_s, it_l, it_t, it_d, fl_n, fl_b, fl_i, fl_s, nn_n, nn_b, nn_i, nn_s, nn_l, nn_t, ln_l, ln_t, ix0, ix1, ix2, ixl1, ixl2, ixl3, ii_n, ii_b, ii_i, ii_s, ii_l, ii_t, ii_d, ev_ii, ev_ss, ev_nn, ev_bb, ev_tt, ev_ll, ev_tn, ev_nt, ev_in, ev_ni, ev_it, ev_ti, ev_st, ev_ts, ev_si, ev_is, ea_nn, ea_nc, ea_cn, ea_cc, st_0_0, st_0_1, st_0_2, st_0_3, st_0_4, st_1_0, st_1_1, st_1_2, st_1_3, st_1_4, st_2_0, st_2_1, st_2_2, st_2_3, st_2_4, st_3_0, st_3_1, st_3_2, st_3_3, st_3_4, st_4_0, st_4_1, st_4_2, st_4_3, st_4_4, so_0, so_1, so_2, so_3, so_4, shp, PyData.canLay0, PyData.canLayAll0, PyData.depth, PyData.depthAll, Way.d, addD, addI, m5] at q ⊢ <;> exact q
def sp__law_times (ca : Str → Addr) : SpD := GS (fun a : Way × D × D => [a.1.d, a.2.1, a.2.2]) (fun a => a.1.ok ∧ okNum a.1 a.2.1 ∧ okNum a.1 a.2.2 ∧ bd 2000 a.2.1 ∧ bd 2000 a.2.2) (fun a => .ok (mulD a.1 a.2.1 a.2.2))
theorem mo__law_times {ca : Str → Addr} : SpMono (sp__law_times ca) := GS.mo
theorem sc__law_times : FnScope ["way", "one", "far", "left"] ["way", "one", "far"] (defScope s__law_times) := ⟨rfl, rfl, rfl, by decide +kernel, rfl, by decide +kernel, by decide +kernel⟩
theorem ok__law_times {w : World} {K : PySem.W.Frag} {mg : Str → Option Value} {base : Heap} {ca : Str → Addr} (T : Txt K mg ca) (h__law_lowest : DOk prog w K mg base 1 "_law_lowest" ["part", "whole"] (sp__law_lowest ca)) : DOk prog w K mg base 2 "_law_times" ["way", "one", "far"] (sp__law_times ca) := by
  refine dok T.a__law_times sc__law_times (GS.len fun _ => rfl) fun f cdv A outer s S F H E hr => ⟨_, (pxs_cons (pxs_if (PXW.pt (pxw_or (pxt_cmp od_is (px_var 1 (pv 1)) (px_c pe_non fun _ _ => .non) (nomark _)) (pxw_or1 (pxt_cmp od_is (px_var 2 (pv 2)) (px_c pe_non fun _ _ => .non) (nomark _))))) (pxs_cons (pxs_ret (px_c pe_non fun _ _ => .non)) pxs_nil) pxs_nil) (pxs_cons (pxs_if (pxt_cmp (od_eq (Room.eqU hr)) (px_ix id_ix (px_var 0 (pv 0)) (px_c pe_int fun _ _ => .int _) (fun _ _ => rfl)) (px_c pe_str fun _ _ => .str _) (nomark _)) (pxs_cons (pxs_ret (px_c pe_int fun _ _ => .int _)) pxs_nil) pxs_nil) (pxs_cons (pxs_if (pxt_cmp (od_eq (Room.eqU hr)) (px_ix id_ix (px_var 0 (pv 0)) (px_c pe_int fun _ _ => .int _) (fun _ _ => rfl)) (px_c pe_str fun _ _ => .str _) (nomark _)) (pxs_cons (pxs_ret (px_op od_mul (px_var 1 (pv 1)) (px_var 2 (pv 2)))) pxs_nil) pxs_nil) (pxs_cons (pxs_if (pxt_cmp (od_eq (Room.eqU hr)) (px_ix id_ix (px_var 0 (pv 0)) (px_c pe_int fun _ _ => .int _) (fun _ _ => rfl)) (px_c pe_str fun _ _ => .str _) (nomark _)) (pxs_cons (pxs_ret (px_callL lets_cx h__law_lowest mo__law_lowest (hr.mono (by decide)) (pxa_cons (px_op od_mul (px_ix id_ix (px_var 1 (pv 1)) (px_c pe_int fun _ _ => .int _) (fun _ _ => rfl)) (px_ix id_ix (px_var 2 (pv 2)) (px_c pe_int fun _ _ => .int _) (fun _ _ => rfl))) (pxa_cons (px_op od_mul (px_ix id_ix (px_var 1 (pv 1)) (px_c pe_int fun _ _ => .int _) (fun _ _ => rfl)) (px_ix id_ix (px_var 2 (pv 2)) (px_c pe_int fun _ _ => .int _) (fun _ _ => rfl))) pxa_nil)))) pxs_nil) pxs_nil) (pxs_cons (pxs_if (pxt_cmp (od_eq (Room.eqU hr)) (px_ix id_ix (px_var 0 (pv 0)) (px_c pe_int fun _ _ => .int _) (fun _ _ => rfl)) (px_c pe_str fun _ _ => .str _) (nomark _)) (pxs_cons (pxs_ret (px_op od_add (px_var 1 (pv 1)) (px_var 2 (pv 2)))) pxs_nil) pxs_nil) (pxs_cons (pxs_set 3 sc__law_times.nd rfl (.inl rfl) (px_op od_mod (px_callTy cd_int rfl T.b_int rfl (pxa_cons (px_op od_mul (px_var 1 (pv 1)) (px_var 2 (pv 2))) pxa_nil)) (px_ix id_ix (px_var 0 (pv 0)) (px_c pe_int fun _ _ => .int _) (fun _ _ => rfl)))) (pxs_cons (pxs_ret (px_if (pxt_cmp od_gt (px_var 3 (pv 3)) (px_c pe_int fun _ _ => .int _) (nomark _)) (px_var 3 (pv 3)) (px_c pe_non fun _ _ => .non))) pxs_nil))))))), ?_⟩
  rintro ds n Q ⟨⟨W, x, y⟩, rfl, ⟨hW, hx, hy, bx, bY⟩, q⟩
  dsimp only at hW hx hy bx bY q ⊢
  rcases non_cases hx with ⟨nx, rfl⟩ | ⟨nx, kx⟩
  · rw [mul_nl] at q
    rcases non_cases hy with ⟨ny, rfl⟩ | ⟨ny, ky⟩
    · simp [dVar, dC, dOp, dTest, dChain, dAnd, dOr, dNot, dAndV, dOrV, dNotV, dIf, dNil, dCons, dTup, dLst, dCallL, dRaiseL, dErr, dThunk, dNeg, dNoPart, dPart, dSl, dCB, dIsi, dNext, dSeq, dBreak, dCont, dIfS, dRet, dRetN, dDrop, dSet, dList, dLst', dSetO, dApp, dSetIx, dAsg, dPar, gNm, gNl, gCn, gTp, dSeqOf, dRange1, dRange2, dEnum, dZip, dFor, dForL, dYes, retD, startD, outD, F1_at, F2_at, F3_at, ex2, ex3, sizeLine_eq, rAddD, rMulD, rCmpD, rEqD', rIsD, rInD', rIxD, rLenD, rI0, rDivD, rModD, rPowD, rSubD, ty_n, ty_b, ty_i, ty_s, ty_l, ty_t, ty_d, it_n, it_b, it_i, it_s, it_l, it_t, it_d, fl_n, fl_b, fl_i, fl_s, nn_n, nn_b, nn_i, nn_s, nn_l, nn_t, ln_l, ln_t, ix0, ix1, ix2, ixl1, ixl2, ixl3, ii_n, ii_b, ii_i, ii_s, ii_l, ii_t, ii_d, ev_ii, ev_ss, ev_nn, ev_bb, ev_tt, ev_ll, ev_tn, ev_nt, ev_in, ev_ni, ev_it, ev_ti, ev_st, ev_ts, ev_si, ev_is, ea_nn, ea_nc, ea_cn, ea_cc, st_0_0, st_0_1, st_0_2, st_0_3, st_0_4, st_1_0, st_1_1, st_1_2, st_1_3, st_1_4, st_2_0, st_2_1, st_2_2, st_2_3, st_2_4, st_3_0, st_3_1, st_3_2, st_3_3, st_3_4, st_4_0, st_4_1, st_4_2, st_4_3, st_4_4, so_0, so_1, so_2, so_3, so_4] at q ⊢
      exact q
    · simp [dVar, dC, dOp, dTest, dChain, dAnd, dOr, dNot, dAndV, dOrV, dNotV, dIf, dNil, dCons, dTup, dLst, dCallL, dRaiseL, dErr, dThunk, dNeg, dNoPart, dPart, dSl, dCB, dIsi, dNext, dSeq, dBreak, dCont, dIfS, dRet, dRetN, dDrop, dSet, dList, dLst', dSetO, dApp, dSetIx, dAsg, dPar, gNm, gNl, gCn, gTp, dSeqOf, dRange1, dRange2, dEnum, dZip, dFor, dForL, dYes, retD, startD, outD, F1_at, F2_at, F3_at, ex2, ex3, sizeLine_eq, rAddD, rMulD, rCmpD, rEqD', rIsD, rInD', rIxD, rLenD, rI0, rDivD, rModD, rPowD, rSubD, ty_n, ty_b, ty_i, ty_s, ty_l, ty_t, ty_d, it_n, it_b, it_i, it_s, it_l, it_t, it_d, fl_n, fl_b, fl_i, fl_s, nn_n, nn_b, nn_i, nn_s, nn_l, nn_t, ln_l, ln_t, ix0, ix1, ix2, ixl1, ixl2, ixl3, ii_n, ii_b, ii_i, ii_s, ii_l, ii_t, ii_d, ev_ii, ev_ss, ev_nn, ev_bb, ev_tt, ev_ll, ev_tn, ev_nt, ev_in, ev_ni, ev_it, ev_ti, ev_st, ev_ts, ev_si, ev_is, ea_nn, ea_nc, ea_cn, ea_cc, st_0_0, st_0_1, st_0_2, st_0_3, st_0_4, st_1_0, st_1_1, st_1_2, st_1_3, st_1_4, st_2_0, st_2_1, st_2_2, st_2_3, st_2_4, st_3_0, st_3_1, st_3_2, st_3_3, st_3_4, st_4_0, st_4_1, st_4_2, st_4_3, st_4_4, so_0, so_1, so_2, so_3, so_4, ny] at q ⊢
      exact q
  rcases non_cases hy with ⟨ny, rfl⟩ | ⟨ny, ky⟩
  · rw [mul_nr] at q
    simp [dVar, dC, dOp, dTest, dChain, dAnd, dOr, dNot, dAndV, dOrV, dNotV, dIf, dNil, dCons, dTup, dLst, dCallL, dRaiseL, dErr, dThunk, dNeg, dNoPart, dPart, dSl, dCB, dIsi, dNext, dSeq, dBreak, dCont, dIfS, dRet, dRetN, dDrop, dSet, dList, dLst', dSetO, dApp, dSetIx, dAsg, dPar, gNm, gNl, gCn, gTp, dSeqOf, dRange1, dRange2, dEnum, dZip, dFor, dForL, dYes, retD, startD, outD, F1_at, F2_at, F3_at, ex2, ex3, sizeLine_eq, rAddD, rMulD, rCmpD, rEqD', rIsD, rInD', rIxD, rLenD, rI0, rDivD, rModD, rPowD, rSubD, ty_n, ty_b, ty_i, ty_s, ty_l, ty_t, ty_d, it_n, it_b, it_i, it_s, it_l, it_t, it_d, fl_n, fl_b, fl_i, fl_s, nn_n, nn_b, nn_i, nn_s, nn_l, nn_t, ln_l, ln_t, ix0, ix1, ix2, ixl1, ixl2, ixl3, ii_n, ii_b, ii_i, ii_s, ii_l, ii_t, ii_d, ev_ii, ev_ss, ev_nn, ev_bb, ev_tt, ev_ll, ev_tn, ev_nt, ev_in, ev_ni, ev_it, ev_ti, ev_st, ev_ts, ev_si, ev_is, ea_nn, ea_nc, ea_cn, ea_cc, st_0_0, st_0_1, st_0_2, st_0_3, st_0_4, st_1_0, st_1_1, st_1_2, st_1_3, st_1_4, st_2_0, st_2_1, st_2_2, st_2_3, st_2_4, st_3_0, st_3_1, st_3_2, st_3_3, st_3_4, st_4_0, st_4_1, st_4_2, st_4_3, st_4_4, so_0, so_1, so_2, so_3, so_4, nx] at q ⊢
    exact q
  by_cases c : W = .ch
  · subst c
    obtain ⟨p, s, rfl, p1, s1, _⟩ := num_fr kx
    obtain ⟨r, t, rfl, r1, t1, _⟩ := num_fr ky
    obtain ⟨bp, bs⟩ := bx
    obtain ⟨br, bt⟩ := bY
    have m1 := log_mul (nb_le bp (by decide)) (nb_le bt (by decide))
    have m2 := log_mul (nb_le br (by decide)) (nb_le bs (by decide))
    have m3 := log_mul (nb_le bs (by decide)) (nb_le bt (by decide))
    have m4 := log_mul (nb_le bp (by decide)) (nb_le br (by decide))
    have pos := Int.mul_pos s1 t1
    have num : 0 < p * t + r * s := by
      have := Int.mul_pos p1 t1
      have := Int.mul_pos r1 s1
      omega
    have numM := Int.mul_pos p1 r1
    have bn : (s * t).natAbs < 2 ^ 8000 := nb_le (nb_mul bs bt) (by decide)
    simp [dVar, dC, dOp, dTest, dChain, dAnd, dOr, dNot, dAndV, dOrV, dNotV, dIf, dNil, dCons, dTup, dLst, dCallL, dRaiseL, dErr, dThunk, dNeg, dNoPart, dPart, dSl, dCB, dIsi, dNext, dSeq, dBreak, dCont, dIfS, dRet, dRetN, dDrop, dSet, dList, dLst', dSetO, dApp, dSetIx, dAsg, dPar, gNm, gNl, gCn, gTp, dSeqOf, dRange1, dRange2, dEnum, dZip, dFor, dForL, dYes, retD, startD, outD, F1_at, F2_at, F3_at, ex2, ex3, sizeLine_eq, rAddD, rMulD, rCmpD, rEqD', rIsD, rInD', rIxD, rLenD, rI0, rDivD, rModD, rPowD, rSubD, ty_n, ty_b, ty_i, ty_s, ty_l, ty_t, ty_d, it_n, it_b, it_i, it_s, it_l, it_t, it_d, fl_n, fl_b, fl_i, fl_s, nn_n, nn_b, nn_i, nn_s, nn_l, nn_t, ln_l, ln_t, ix0, ix1, ix2, ixl1, ixl2, ixl3, ii_n, ii_b, ii_i, ii_s, ii_l, ii_t, ii_d, ev_ii, ev_ss, ev_nn, ev_bb, ev_tt, ev_ll, ev_tn, ev_nt, ev_in, ev_ni, ev_it, ev_ti, ev_st, ev_ts, ev_si, ev_is, ea_nn, ea_nc, ea_cn, ea_cc, st_0_0, st_0_1, st_0_2, st_0_3, st_0_4, st_1_0, st_1_1, st_1_2, st_1_3, st_1_4, st_2_0, st_2_1, st_2_2, st_2_3, st_2_4, st_3_0, st_3_1, st_3_2, st_3_3, st_3_4, st_4_0, st_4_1, st_4_2, st_4_3, st_4_4, so_0, so_1, so_2, so_3, so_4, shp, PyData.canLay0, PyData.canLayAll0, PyData.depth, PyData.depthAll, Way.d, mulD, m1, m2, m3, m4] at q ⊢
    exact ⟨(p * r, s * t), rfl, ⟨numM, pos, bn⟩, q⟩
  · obtain ⟨i, rfl⟩ := num_int c kx
    obtain ⟨j, rfl⟩ := num_int c ky
    have m5 := log_mul (nb_le (show i.natAbs < 2 ^ 2000 from bx) (by decide)) (nb_le (show j.natAbs < 2 ^ 2000 from bY) (by decide))
    cases W with
    | ch => exact absurd rfl c
    | lf m =>
      have hm : 0 < m := by
        have := hW.1
        omega
      by_cases h : 0 < (i * j) % m
      · simp [dVar, dC, dOp, dTest, dChain, dAnd, dOr, dNot, dAndV, dOrV, dNotV, dIf, dNil, dCons, dTup, dLst, dCallL, dRaiseL, dErr, dThunk, dNeg, dNoPart, dPart, dSl, dCB, dIsi, dNext, dSeq, dBreak, dCont, dIfS, dRet, dRetN, dDrop, dSet, dList, dLst', dSetO, dApp, dSetIx, dAsg, dPar, gNm, gNl, gCn, gTp, dSeqOf, dRange1, dRange2, dEnum, dZip, dFor, dForL, dYes, retD, startD, outD, F1_at, F2_at, F3_at, ex2, ex3, sizeLine_eq, rAddD, rMulD, rCmpD, rEqD', rIsD, rInD', rIxD, rLenD, rI0, rDivD, rModD, rPowD, rSubD, ty_n, ty_b, ty_i, ty_s, ty_l, ty_t, ty_d, it_n, it_b, it_i, it_s, it_l, it_t, it_d, fl_n, fl_b, fl_i, fl_s, nn_n, nn_b, nn_i, nn_s, nn_l, nn_t, ln_l, ln_t, ix0, ix1, ix2, ixl1, ixl2, ixl3, ii_n, ii_b, ii_i, ii_s, ii_l, ii_t, ii_d, ev_ii, ev_ss, ev_nn, ev_bb, ev_tt, ev_ll, ev_tn, ev_nt, ev_in, ev_ni, ev_it, ev_ti, ev_st, ev_ts, ev_si, ev_is, ea_nn, ea_nc, ea_cn, ea_cc, st_0_0, st_0_1, st_0_2, st_0_3, st_0_4, st_1_0, st_1_1, st_1_2, st_1_3, st_1_4, st_2_0, st_2_1, st_2_2, st_2_3, st_2_4, st_3_0, st_3_1, st_3_2, st_3_3, st_3_4, st_4_0, st_4_1, st_4_2, st_4_3, st_4_4, so_0, so_1, so_2, so_3, so_4, shp, PyData.canLay0, PyData.canLayAll0, PyData.depth, PyData.depthAll, Way.d, mulD, mulI, left, h, hm, m5] at q ⊢
        exact q
      · simp [dVar, dC, dOp, dTest, dChain, dAnd, dOr, dNot, dAndV, dOrV, dNotV, dIf, dNil, dCons, dTup, dLst, dCallL, dRaiseL, dErr, dThunk, dNeg, dNoPart, dPart, dSl, dCB, dIsi, dNext, dSeq, dBreak, dCont, dIfS, dRet, dRetN, dDrop, dSet, dList, dLst', dSetO, dApp, dSetIx, dAsg, dPar, gNm, gNl, gCn, gTp, dSeqOf, dRange1, dRange2, dEnum, dZip, dFor, dForL, dYes, retD, startD, outD, F1_at, F2_at, F3_at, ex2, ex3, sizeLine_eq, rAddD, rMulD, rCmpD, rEqD', rIsD, rInD', rIxD, rLenD, rI0, rDivD, rModD, rPowD, rSubD, ty_n, ty_b, ty_i, ty_s, ty_l, ty_t, ty_d, it_n, it_b, it_i, it_s, it_l, it_t, it_d, fl_n, fl_b, fl_i, fl_s, nn_n, nn_b, nn_i, nn_s, nn_l, nn_t, ln_l, ln_t, ix0, ix1, ix2, ixl1, ixl2, ixl3, ii_n, ii_b, ii_i, ii_s, ii_l, ii_t, ii_d, ev_ii, ev_ss, ev_nn, ev_bb, ev_tt, ev_ll, ev_tn, ev_nt, ev_in, ev_ni, ev_it, ev_ti, ev_st, ev_ts, ev_si, ev_is, ea_nn, ea_nc, ea_cn, ea_cc, st_0_0, st_0_1, st_0_2, st_0_3, st_0_4, st_1_0, st_1_1, st_1_2, st_1_3, st_1_4, st_2_0, st_2_1, st_2_2, st_2_3, st_2_4, st_3_0, st_3_1, st_3_2, st_3_3, st_3_4, st_4_0, st_4_1, st_4_2, st_4_3, st_4_4, so_0, so_1, so_2, so_3, so_4, shp, PyData.canLay0, PyData.canLayAll0, PyData.depth, PyData.depthAll, Way.d, mulD, mulI, left, h, hm, m5] at q ⊢
        exact q
    | _ => simp [dVar, dC, dOp, dTest, dChain, dAnd, dOr, dNot, dAndV, dOrV, dNotV, dIf, dNil, dCons, dTup, dLst, dCallL, dRaiseL, dErr, dThunk, dNeg, dNoPart, dPart, dSl, dCB, dIsi, dNext, dSeq, dBreak, dCont, dIfS, dRet, dRetN, dDrop, dSet, dList, dLst', dSetO, dApp, dSetIx, dAsg, dPar, gNm, gNl, gCn, gTp, dSeqOf, dRange1, dRange2, dEnum, dZip, dFor, dForL, dYes, retD, startD, outD, F1_at, F2_at, F3_at, ex2, ex3, sizeLine_eq, rAddD, rMulD, rCmpD, rEqD', rIsD, rInD', rIxD, rLenD, rI0, rDivD, rModD, rPowD, rSubD, ty_n, ty_b, ty_i, ty_s, ty_l, ty_t, ty_d, it_n, it_b, it_i, it_s, it_l, it_t, it_d, fl_n, fl_b, fl_i, fl_s, nn_n, nn_b, nn_i, nn_s, nn_l, nn_t, ln_l, ln_t, ix0, ix1, ix2, ixl1, ixl2, ixl3, ii_n, ii_b, ii_i, ii_s, ii_l, ii_t, ii_d, ev_ii, ev_ss, ev_nn, ev_bb, ev_tt, ev_ll, ev_tn, ev_nt, ev_in, ev_ni, ev_it, ev_ti, ev_st, ev_ts, ev_si, ev_is, ea_nn, ea_nc, ea_cn, ea_cc, st_0_0, st_0_1, st_0_2, st_0_3, st_0_4, st_1_0, st_1_1, st_1_2, st_1_3, st_1_4, st_2_0, st_2_1, st_2_2, st_2_3, st_2_4, st_3_0, st_3_1, st_3_2, st_3_3, st_3_4, st_4_0, st_4_1, st_4_2, st_4_3, st_4_4, so_0, so_1, so_2, so_3, so_4, shp, PyData.canLay0, PyData.canLayAll0, PyData.depth, PyData.depthAll, Way.d, mulD, mulI, m5] at q ⊢ <;> exact q
end LK
end
section
set_option Elab.async false
set_option linter.all false
set_option maxRecDepth 100000
set_option maxHeartbeats 4000000
set_option autoImplicit false
namespace LK
open PySem PySem.Spec PyProof.Rows L2 PL
def sp__law_drawn_way (ca : Str → Addr) : SpD := GR (fun _ : Unit => [stTok]) (fun _ => True) 3 (fun _ x => ∃ W : Way, W.ok ∧ x = W.d)
theorem mo__law_drawn_way {ca : Str → Addr} : SpMono (sp__law_drawn_way ca) := GR.mo
theorem sc__law_drawn_way : FnScope ["m"] ["m"] (defScope s__law_drawn_way) := ⟨rfl, rfl, rfl, by decide +kernel, rfl, by decide +kernel, by decide +kernel⟩
theorem ok__law_drawn_way {w : World} {K : PySem.W.Frag} {mg : Str → Option Value} {base : Heap} {ca : Str → Addr} (T : Txt K mg ca) (h__law_draw : DOk prog w K mg base 2 "_law_draw" ["m", "limit"] (sp__law_draw ca)) (h__law_of : DOk prog w K mg base 3 "_law_of" ["m", "some"] (sp__law_of ca)) : DOk prog w K mg base 4 "_law_drawn_way" ["m"] (sp__law_drawn_way ca) := by
  refine dok T.a__law_drawn_way sc__law_drawn_way (GR.len fun _ => rfl) fun f cdv A outer s S F H E hr => ⟨_, (pxs_cons (pxs_ret (px_callL lets_cx h__law_of mo__law_of (hr.mono (by decide)) (pxa_cons (px_var 0 (pv 0)) (pxa_cons (px_lst (pxa_cons (px_tup (pxa_cons (px_c pe_str fun _ _ => .str _) pxa_nil)) (pxa_cons (px_tup (pxa_cons (px_c pe_str fun _ _ => .str _) pxa_nil)) (pxa_cons (px_tup (pxa_cons (px_c pe_str fun _ _ => .str _) pxa_nil)) (pxa_cons (px_tup (pxa_cons (px_c pe_str fun _ _ => .str _) pxa_nil)) (pxa_cons (px_tup (pxa_cons (px_c pe_str fun _ _ => .str _) (pxa_cons (px_op od_add (px_c pe_int fun _ _ => .int _) (px_callL lets_cx h__law_draw mo__law_draw (hr.mono (by decide)) (pxa_cons (px_var 0 (pv 0)) (pxa_cons (px_callL lets_cx h__law_of mo__law_of (hr.mono (by decide)) (pxa_cons (px_var 0 (pv 0)) (pxa_cons (px_lst (pxa_cons (px_c pe_int fun _ _ => .int _) (pxa_cons (px_c pe_int fun _ _ => .int _) (pxa_cons (px_c pe_int fun _ _ => .int _) pxa_nil)))) pxa_nil))) pxa_nil)))) pxa_nil))) pxa_nil)))))) pxa_nil)))) pxs_nil), ?_⟩
  rintro ds n Q ⟨⟨⟩, rfl, _, hw, q⟩
  have key : ∀ (l : Int) (w1 : Nat) (Q' : Nat → D → Prop) (E' : ED), 0 < l → l ≤ 999 → w1 ≤ n + 1 → (∀ (w2 : Nat) (k : Int), w2 ≤ n + 2 → 0 ≤ k → k ≤ 998 → Q' w2 (.int k)) → sp__law_draw ca [stTok, .int l] w1 Q' E' := fun l w1 Q' E' a b c q => drw a (nb_le (A := 10) (by omega) (by decide)) (by omega) fun w2 k d e f => q w2 k (by omega) e (by omega)
  simp [dVar, dC, dOp, dTest, dChain, dAnd, dOr, dNot, dAndV, dOrV, dNotV, dIf, dNil, dCons, dTup, dLst, dCallL, dRaiseL, dErr, dThunk, dNeg, dNoPart, dPart, dSl, dCB, dIsi, dNext, dSeq, dBreak, dCont, dIfS, dRet, dRetN, dDrop, dSet, dList, dLst', dSetO, dApp, dSetIx, dAsg, dPar, gNm, gNl, gCn, gTp, dSeqOf, dRange1, dRange2, dEnum, dZip, dFor, dForL, dYes, retD, startD, outD, F1_at, F2_at, F3_at, ex2, ex3, sizeLine_eq, rAddD, rMulD, rCmpD, rEqD', rIsD, rInD', rIxD, rLenD, rI0, rDivD, rModD, rPowD, rSubD, ty_n, ty_b, ty_i, ty_s, ty_l, ty_t, ty_d, it_n, it_b, it_i, it_s, it_l, it_t, it_d, fl_n, fl_b, fl_i, fl_s, nn_n, nn_b, nn_i, nn_s, nn_l, nn_t, ln_l, ln_t, ix0, ix1, ix2, ixl1, ixl2, ixl3, ii_n, ii_b, ii_i, ii_s, ii_l, ii_t, ii_d, ev_ii, ev_ss, ev_nn, ev_bb, ev_tt, ev_ll, ev_tn, ev_nt, ev_in, ev_ni, ev_it, ev_ti, ev_st, ev_ts, ev_si, ev_is, ea_nn, ea_nc, ea_cn, ea_cc, st_0_0, st_0_1, st_0_2, st_0_3, st_0_4, st_1_0, st_1_1, st_1_2, st_1_3, st_1_4, st_2_0, st_2_1, st_2_2, st_2_3, st_2_4, st_3_0, st_3_1, st_3_2, st_3_3, st_3_4, st_4_0, st_4_1, st_4_2, st_4_3, st_4_4, so_0, so_1, so_2, so_3, so_4] at q ⊢
  refine ofw (by simp) (by simp) (by omega) fun w1 x hw1 hx => ?_
  simp only [List.mem_cons, List.not_mem_nil, or_false] at hx
  obtain ⟨l, rfl, a, b⟩ : ∃ l : Int, x = .int l ∧ 0 < l ∧ l ≤ 999 := by
    rcases hx with rfl | rfl | rfl
    · exact ⟨1, rfl, by decide, by decide⟩
    · exact ⟨11, rfl, by decide, by decide⟩
    · exact ⟨999, rfl, by decide, by decide⟩
  refine key l w1 _ _ a b hw1 fun w2 k hw2 k0 k1 => ?_
  simp
  refine ofw (by simp) (by simp) (by omega) fun w3 y hw3 hy => ?_
  simp only [List.mem_cons, List.not_mem_nil, or_false] at hy
  rcases hy with rfl | rfl | rfl | rfl | rfl
  · exact q _ _ (by omega) .wh trivial rfl
  · exact q _ _ (by omega) .ct trivial rfl
  · exact q _ _ (by omega) .ch trivial rfl
  · exact q _ _ (by omega) .co trivial rfl
  · exact q _ _ (by omega) (.lf (2 + k)) ⟨by omega, by omega⟩ rfl
def sp__law_vast (ca : Str → Addr) : SpD := GR (fun _ : Unit => [stTok]) (fun _ => True) 7 (fun _ x => ∃ k : Int, x = .int k ∧ 0 < k ∧ k.natAbs < 2 ^ 420)
theorem mo__law_vast {ca : Str → Addr} : SpMono (sp__law_vast ca) := GR.mo
theorem sc__law_vast : FnScope ["m", "found", "turn"] ["m"] (defScope s__law_vast) := ⟨rfl, rfl, rfl, by decide +kernel, rfl, by decide +kernel, by decide +kernel⟩
theorem ok__law_vast {w : World} {K : PySem.W.Frag} {mg : Str → Option Value} {base : Heap} {ca : Str → Addr} (T : Txt K mg ca) (h__law_draw : DOk prog w K mg base 2 "_law_draw" ["m", "limit"] (sp__law_draw ca)) (h__law_of : DOk prog w K mg base 3 "_law_of" ["m", "some"] (sp__law_of ca)) : DOk prog w K mg base 4 "_law_vast" ["m"] (sp__law_vast ca) := by
  refine dok T.a__law_vast sc__law_vast (GR.len fun _ => rfl) fun f cdv A outer s S F H E hr => ⟨_, (pxs_cons (pxs_set 1 sc__law_vast.nd rfl (.inl rfl) (px_op od_add (px_c pe_int fun _ _ => .int _) (px_callL lets_cx h__law_draw mo__law_draw (hr.mono (by decide)) (pxa_cons (px_var 0 (pv 0)) (pxa_cons (px_op od_pow (px_c pe_int fun _ _ => .int _) (px_c pe_int fun _ _ => .int _)) pxa_nil))))) (pxs_cons (pxs_for passes_cx rfl (pxi_range1 rfl T.b_range (pxa_cons (px_callL lets_cx h__law_of mo__law_of (hr.mono (by decide)) (pxa_cons (px_var 0 (pv 0)) (pxa_cons (px_lst (pxa_cons (px_c pe_int fun _ _ => .int _) (pxa_cons (px_c pe_int fun _ _ => .int _) (pxa_cons (px_c pe_int fun _ _ => .int _) pxa_nil)))) pxa_nil))) pxa_nil)) (pxg_name 2 sc__law_vast.nd rfl (.inl rfl)) (pxs_cons (pxs_set 1 sc__law_vast.nd rfl (.inl rfl) (px_op od_add (px_op od_mul (px_var 1 (pv 1)) (px_op od_pow (px_c pe_int fun _ _ => .int _) (px_c pe_int fun _ _ => .int _))) (px_callL lets_cx h__law_draw mo__law_draw (hr.mono (by decide)) (pxa_cons (px_var 0 (pv 0)) (pxa_cons (px_op od_pow (px_c pe_int fun _ _ => .int _) (px_c pe_int fun _ _ => .int _)) pxa_nil))))) pxs_nil)) (pxs_cons (pxs_ret (px_var 1 (pv 1))) pxs_nil))), ?_⟩
  rintro ds n Q ⟨⟨⟩, rfl, _, hw, q⟩
  have p18 : ((10 : Int) ^ 18) = 1000000000000000000 := by decide
  have b18 : (1000000000000000000 : Int).natAbs < 2 ^ 60 := by decide
  simp [dVar, dC, dOp, dTest, dChain, dAnd, dOr, dNot, dAndV, dOrV, dNotV, dIf, dNil, dCons, dTup, dLst, dCallL, dRaiseL, dErr, dThunk, dNeg, dNoPart, dPart, dSl, dCB, dIsi, dNext, dSeq, dBreak, dCont, dIfS, dRet, dRetN, dDrop, dSet, dList, dLst', dSetO, dApp, dSetIx, dAsg, dPar, gNm, gNl, gCn, gTp, dSeqOf, dRange1, dRange2, dEnum, dZip, dFor, dForL, dYes, retD, startD, outD, F1_at, F2_at, F3_at, ex2, ex3, sizeLine_eq, rAddD, rMulD, rCmpD, rEqD', rIsD, rInD', rIxD, rLenD, rI0, rDivD, rModD, rPowD, rSubD, ty_n, ty_b, ty_i, ty_s, ty_l, ty_t, ty_d, it_n, it_b, it_i, it_s, it_l, it_t, it_d, fl_n, fl_b, fl_i, fl_s, nn_n, nn_b, nn_i, nn_s, nn_l, nn_t, ln_l, ln_t, ix0, ix1, ix2, ixl1, ixl2, ixl3, ii_n, ii_b, ii_i, ii_s, ii_l, ii_t, ii_d, ev_ii, ev_ss, ev_nn, ev_bb, ev_tt, ev_ll, ev_tn, ev_nt, ev_in, ev_ni, ev_it, ev_ti, ev_st, ev_ts, ev_si, ev_is, ea_nn, ea_nc, ea_cn, ea_cc, st_0_0, st_0_1, st_0_2, st_0_3, st_0_4, st_1_0, st_1_1, st_1_2, st_1_3, st_1_4, st_2_0, st_2_1, st_2_2, st_2_3, st_2_4, st_3_0, st_3_1, st_3_2, st_3_3, st_3_4, st_4_0, st_4_1, st_4_2, st_4_3, st_4_4, so_0, so_1, so_2, so_3, so_4] at q ⊢
  refine drw (by decide) (nb_le (A := 60) (by decide) (by decide)) (by omega) fun w1 k1 h1 h2 h3 => ?_
  simp
  refine ofw (by simp) (by simp) (by omega) fun w2 x hw2 hx => ?_
  simp only [List.mem_cons, List.not_mem_nil, or_false] at hx
  obtain ⟨l, rfl, a, b⟩ : ∃ l : Int, x = .int l ∧ 0 ≤ l ∧ l ≤ 5 := by
    rcases hx with rfl | rfl | rfl
    · exact ⟨0, rfl, by decide, by decide⟩
    · exact ⟨1, rfl, by decide, by decide⟩
    · exact ⟨5, rfl, by decide, by decide⟩
  refine ⟨l, rfl, ⟨by omega, by omega⟩, ?_⟩
  refine for_inv (fun xs e => ∃ (f : Int) (s2 : Sl) (w : Nat), e = ⟨[.d stTok, .d (.int f), s2], w⟩ ∧ 0 < f ∧ f.natAbs < 2 ^ (60 * (6 - xs.length)) ∧ xs.length ≤ 5 ∧ w + xs.length ≤ n + 7) ?_ ?_ _ _ ⟨1 + k1, .no, w2, rfl, by omega, ?_, by rw [rangeD_len]; omega, by rw [rangeD_len]; omega⟩
  · rintro x xs e K ⟨f, s2, w, rfl, f1, f2, f3, f4⟩ k
    simp only [List.length_cons] at f2 f3 f4
    have l1 := log_mul (i := f) (j := 1000000000000000000) (nb_le f2 (by omega)) (nb_le b18 (by decide))
    simp [dVar, dC, dOp, dTest, dChain, dAnd, dOr, dNot, dAndV, dOrV, dNotV, dIf, dNil, dCons, dTup, dLst, dCallL, dRaiseL, dErr, dThunk, dNeg, dNoPart, dPart, dSl, dCB, dIsi, dNext, dSeq, dBreak, dCont, dIfS, dRet, dRetN, dDrop, dSet, dList, dLst', dSetO, dApp, dSetIx, dAsg, dPar, gNm, gNl, gCn, gTp, dSeqOf, dRange1, dRange2, dEnum, dZip, dFor, dForL, dYes, retD, startD, outD, F1_at, F2_at, F3_at, ex2, ex3, sizeLine_eq, rAddD, rMulD, rCmpD, rEqD', rIsD, rInD', rIxD, rLenD, rI0, rDivD, rModD, rPowD, rSubD, ty_n, ty_b, ty_i, ty_s, ty_l, ty_t, ty_d, it_n, it_b, it_i, it_s, it_l, it_t, it_d, fl_n, fl_b, fl_i, fl_s, nn_n, nn_b, nn_i, nn_s, nn_l, nn_t, ln_l, ln_t, ix0, ix1, ix2, ixl1, ixl2, ixl3, ii_n, ii_b, ii_i, ii_s, ii_l, ii_t, ii_d, ev_ii, ev_ss, ev_nn, ev_bb, ev_tt, ev_ll, ev_tn, ev_nt, ev_in, ev_ni, ev_it, ev_ti, ev_st, ev_ts, ev_si, ev_is, ea_nn, ea_nc, ea_cn, ea_cc, st_0_0, st_0_1, st_0_2, st_0_3, st_0_4, st_1_0, st_1_1, st_1_2, st_1_3, st_1_4, st_2_0, st_2_1, st_2_2, st_2_3, st_2_4, st_3_0, st_3_1, st_3_2, st_3_3, st_3_4, st_4_0, st_4_1, st_4_2, st_4_3, st_4_4, so_0, so_1, so_2, so_3, so_4]
    refine ⟨by simpa using l1, ?_⟩
    refine drw (by decide) (nb_le (A := 60) (by decide) (by decide)) (by omega) fun w3 k3 g1 g2 g3 => ?_
    simp
    refine k _ ⟨f * 1000000000000000000 + k3, _, w3, rfl, by omega, ?_, by omega, by omega⟩
    have e1 : 60 * (6 - xs.length) = 60 * (6 - (xs.length + 1)) + 60 := by omega
    rw [e1, Nat.pow_add]
    have e2 : (f * 1000000000000000000 + k3).natAbs ≤ f.natAbs * 1000000000000000000 + 999999999999999999 := by omega
    have e3 : (2 : Nat) ^ 60 = 1152921504606846976 := by decide
    rw [e3]
    generalize 2 ^ (60 * (6 - (xs.length + 1))) = B at f2 ⊢
    omega
  · rintro e ⟨f, s2, w, rfl, f1, f2, f3, f4⟩
    simp
    exact q _ _ (by simp at f4; omega) f rfl f1 (nb_le f2 (by simp))
  · rw [rangeD_len]
    have : (1 + k1).natAbs < 2 ^ 60 := by omega
    exact nb_le this (by omega)
end LK
end
section
set_option Elab.async false
set_option linter.all false
set_option maxRecDepth 100000
set_option maxHeartbeats 4000000
set_option autoImplicit false
namespace LK
open PySem PySem.Spec PyProof.Rows L2 PL
theorem dwn {ca : Str → Addr} {l : Int} {n N : Nat} {Q : Nat → D → Prop} {E : ED} (hl : 0 < l) (hb : l.natAbs < 2 ^ 60) (hw : n + 1 ≤ N) (hN : N < 2 ^ 60) (q : ∀ (w' : Nat) (k : Int), w' ≤ n + 1 → 0 ≤ k → k < l → Q w' (.int k)) : sp__law_draw ca [stTok, .int l] n Q E :=
  drw hl (nb_le hb (by decide)) (by omega) q
theorem bd_int {B : Nat} {i : Int} (h : i.natAbs < 2 ^ 60) (l : 60 ≤ B) : bd B (.int i) := nb_le h l
def sp__law_drawn_number (ca : Str → Addr) : SpD := GR (fun a : Way => [stTok, a.d]) (fun a => a.ok) 4 (fun a x => isNum a x = true ∧ bd 100 x)
theorem mo__law_drawn_number {ca : Str → Addr} : SpMono (sp__law_drawn_number ca) := GR.mo
theorem sc__law_drawn_number : FnScope ["m", "way"] ["m", "way"] (defScope s__law_drawn_number) := ⟨rfl, rfl, rfl, by decide +kernel, rfl, by decide +kernel, by decide +kernel⟩
theorem ok__law_drawn_number {w : World} {K : PySem.W.Frag} {mg : Str → Option Value} {base : Heap} {ca : Str → Addr} (T : Txt K mg ca) (h__law_draw : DOk prog w K mg base 2 "_law_draw" ["m", "limit"] (sp__law_draw ca)) (h__law_lowest : DOk prog w K mg base 1 "_law_lowest" ["part", "whole"] (sp__law_lowest ca)) (h__law_of : DOk prog w K mg base 3 "_law_of" ["m", "some"] (sp__law_of ca)) : DOk prog w K mg base 4 "_law_drawn_number" ["m", "way"] (sp__law_drawn_number ca) := by
  refine dok T.a__law_drawn_number sc__law_drawn_number (GR.len fun _ => rfl) fun f cdv A outer s S F H E hr => ⟨_, (pxs_cons (pxs_if (pxt_cmp (od_eq (Room.eqU hr)) (px_ix id_ix (px_var 1 (pv 1)) (px_c pe_int fun _ _ => .int _) (fun _ _ => rfl)) (px_c pe_str fun _ _ => .str _) (nomark _)) (pxs_cons (pxs_ret (px_c pe_int fun _ _ => .int _)) pxs_nil) pxs_nil) (pxs_cons (pxs_if (pxt_cmp (od_eq (Room.eqU hr)) (px_ix id_ix (px_var 1 (pv 1)) (px_c pe_int fun _ _ => .int _) (fun _ _ => rfl)) (px_c pe_str fun _ _ => .str _) (nomark _)) (pxs_cons (pxs_ret (px_callL lets_cx h__law_of mo__law_of (hr.mono (by decide)) (pxa_cons (px_var 0 (pv 0)) (pxa_cons (px_lst (pxa_cons (px_c pe_int fun _ _ => .int _) (pxa_cons (px_c pe_int fun _ _ => .int _) (pxa_cons (px_c pe_int fun _ _ => .int _) (pxa_cons (px_op od_add (px_c pe_int fun _ _ => .int _) (px_callL lets_cx h__law_draw mo__law_draw (hr.mono (by decide)) (pxa_cons (px_var 0 (pv 0)) (pxa_cons (px_c pe_int fun _ _ => .int _) pxa_nil)))) (pxa_cons (px_op od_add (px_c pe_int fun _ _ => .int _) (px_callL lets_cx h__law_draw mo__law_draw (hr.mono (by decide)) (pxa_cons (px_var 0 (pv 0)) (pxa_cons (px_op od_pow (px_c pe_int fun _ _ => .int _) (px_c pe_int fun _ _ => .int _)) pxa_nil)))) pxa_nil)))))) pxa_nil)))) pxs_nil) pxs_nil) (pxs_cons (pxs_if (pxt_cmp (od_eq (Room.eqU hr)) (px_ix id_ix (px_var 1 (pv 1)) (px_c pe_int fun _ _ => .int _) (fun _ _ => rfl)) (px_c pe_str fun _ _ => .str _) (nomark _)) (pxs_cons (pxs_ret (px_callL lets_cx h__law_lowest mo__law_lowest (hr.mono (by decide)) (pxa_cons (px_op od_add (px_c pe_int fun _ _ => .int _) (px_callL lets_cx h__law_draw mo__law_draw (hr.mono (by decide)) (pxa_cons (px_var 0 (pv 0)) (pxa_cons (px_c pe_int fun _ _ => .int _) pxa_nil)))) (pxa_cons (px_op od_add (px_c pe_int fun _ _ => .int _) (px_callL lets_cx h__law_draw mo__law_draw (hr.mono (by decide)) (pxa_cons (px_var 0 (pv 0)) (pxa_cons (px_c pe_int fun _ _ => .int _) pxa_nil)))) pxa_nil)))) pxs_nil) pxs_nil) (pxs_cons (pxs_if (pxt_cmp (od_eq (Room.eqU hr)) (px_ix id_ix (px_var 1 (pv 1)) (px_c pe_int fun _ _ => .int _) (fun _ _ => rfl)) (px_c pe_str fun _ _ => .str _) (nomark _)) (pxs_cons (pxs_ret (px_callL lets_cx h__law_of mo__law_of (hr.mono (by decide)) (pxa_cons (px_var 0 (pv 0)) (pxa_cons (px_lst (pxa_cons (px_c pe_int fun _ _ => .int _) (pxa_cons (px_c pe_int fun _ _ => .int _) (pxa_cons (px_c pe_int fun _ _ => .int _) (pxa_cons (px_op od_sub (px_callL lets_cx h__law_draw mo__law_draw (hr.mono (by decide)) (pxa_cons (px_var 0 (pv 0)) (pxa_cons (px_c pe_int fun _ _ => .int _) pxa_nil))) (px_c pe_int fun _ _ => .int _)) (pxa_cons (px_op od_sub (px_c pe_int fun _ _ => .int _) (px_callL lets_cx h__law_draw mo__law_draw (hr.mono (by decide)) (pxa_cons (px_var 0 (pv 0)) (pxa_cons (px_c pe_int fun _ _ => .int _) pxa_nil)))) pxa_nil)))))) pxa_nil)))) pxs_nil) pxs_nil) (pxs_cons (pxs_ret (px_op od_add (px_c pe_int fun _ _ => .int _) (px_callL lets_cx h__law_draw mo__law_draw (hr.mono (by decide)) (pxa_cons (px_var 0 (pv 0)) (pxa_cons (px_op od_sub (px_ix id_ix (px_var 1 (pv 1)) (px_c pe_int fun _ _ => .int _) (fun _ _ => rfl)) (px_c pe_int fun _ _ => .int _)) pxa_nil))))) pxs_nil))))), ?_⟩
  rintro ds n Q ⟨W, rfl, hW, hw, q⟩
  dsimp only at hW q ⊢
  cases W with
  | wh =>
    simp [dVar, dC, dOp, dTest, dChain, dAnd, dOr, dNot, dAndV, dOrV, dNotV, dIf, dNil, dCons, dTup, dLst, dCallL, dRaiseL, dErr, dThunk, dNeg, dNoPart, dPart, dSl, dCB, dIsi, dNext, dSeq, dBreak, dCont, dIfS, dRet, dRetN, dDrop, dSet, dList, dLst', dSetO, dApp, dSetIx, dAsg, dPar, gNm, gNl, gCn, gTp, dSeqOf, dRange1, dRange2, dEnum, dZip, dFor, dForL, dYes, retD, startD, outD, F1_at, F2_at, F3_at, ex2, ex3, sizeLine_eq, rAddD, rMulD, rCmpD, rEqD', rIsD, rInD', rIxD, rLenD, rI0, rDivD, rModD, rPowD, rSubD, ty_n, ty_b, ty_i, ty_s, ty_l, ty_t, ty_d, it_n, it_b, it_i, it_s, it_l, it_t, it_d, fl_n, fl_b, fl_i, fl_s, nn_n, nn_b, nn_i, nn_s, nn_l, nn_t, ln_l, ln_t, ix0, ix1, ix2, ixl1, ixl2, ixl3, ii_n, ii_b, ii_i, ii_s, ii_l, ii_t, ii_d, ev_ii, ev_ss, ev_nn, ev_bb, ev_tt, ev_ll, ev_tn, ev_nt, ev_in, ev_ni, ev_it, ev_ti, ev_st, ev_ts, ev_si, ev_is, ea_nn, ea_nc, ea_cn, ea_cc, st_0_0, st_0_1, st_0_2, st_0_3, st_0_4, st_1_0, st_1_1, st_1_2, st_1_3, st_1_4, st_2_0, st_2_1, st_2_2, st_2_3, st_2_4, st_3_0, st_3_1, st_3_2, st_3_3, st_3_4, st_4_0, st_4_1, st_4_2, st_4_3, st_4_4, so_0, so_1, so_2, so_3, so_4, shp, PyData.canLay0, PyData.canLayAll0, PyData.depth, PyData.depthAll, Way.d] at q ⊢
    exact q n _ (by omega) rfl (bd_int (by decide) (by decide))
  | ct =>
    simp [dVar, dC, dOp, dTest, dChain, dAnd, dOr, dNot, dAndV, dOrV, dNotV, dIf, dNil, dCons, dTup, dLst, dCallL, dRaiseL, dErr, dThunk, dNeg, dNoPart, dPart, dSl, dCB, dIsi, dNext, dSeq, dBreak, dCont, dIfS, dRet, dRetN, dDrop, dSet, dList, dLst', dSetO, dApp, dSetIx, dAsg, dPar, gNm, gNl, gCn, gTp, dSeqOf, dRange1, dRange2, dEnum, dZip, dFor, dForL, dYes, retD, startD, outD, F1_at, F2_at, F3_at, ex2, ex3, sizeLine_eq, rAddD, rMulD, rCmpD, rEqD', rIsD, rInD', rIxD, rLenD, rI0, rDivD, rModD, rPowD, rSubD, ty_n, ty_b, ty_i, ty_s, ty_l, ty_t, ty_d, it_n, it_b, it_i, it_s, it_l, it_t, it_d, fl_n, fl_b, fl_i, fl_s, nn_n, nn_b, nn_i, nn_s, nn_l, nn_t, ln_l, ln_t, ix0, ix1, ix2, ixl1, ixl2, ixl3, ii_n, ii_b, ii_i, ii_s, ii_l, ii_t, ii_d, ev_ii, ev_ss, ev_nn, ev_bb, ev_tt, ev_ll, ev_tn, ev_nt, ev_in, ev_ni, ev_it, ev_ti, ev_st, ev_ts, ev_si, ev_is, ea_nn, ea_nc, ea_cn, ea_cc, st_0_0, st_0_1, st_0_2, st_0_3, st_0_4, st_1_0, st_1_1, st_1_2, st_1_3, st_1_4, st_2_0, st_2_1, st_2_2, st_2_3, st_2_4, st_3_0, st_3_1, st_3_2, st_3_3, st_3_4, st_4_0, st_4_1, st_4_2, st_4_3, st_4_4, so_0, so_1, so_2, so_3, so_4, shp, PyData.canLay0, PyData.canLayAll0, PyData.depth, PyData.depthAll, Way.d] at q ⊢
    refine dwn (N := n + 4) (by decide) (by decide) (by omega) hw fun w1 k1 a1 b1 c1 => ?_
    simp
    refine dwn (N := n + 4) (by decide) (by decide) (by omega) hw fun w2 k2 a2 b2 c2 => ?_
    simp
    refine ofw (by simp) (by simp) (by omega) fun w3 y hw3 hy => ?_
    simp only [List.mem_cons, List.not_mem_nil, or_false] at hy
    rcases hy with rfl | rfl | rfl | rfl | rfl <;> refine q w3 _ (by omega) (by simp [isNum]; try omega) (bd_int (by omega) (by decide))
  | ch =>
    simp [dVar, dC, dOp, dTest, dChain, dAnd, dOr, dNot, dAndV, dOrV, dNotV, dIf, dNil, dCons, dTup, dLst, dCallL, dRaiseL, dErr, dThunk, dNeg, dNoPart, dPart, dSl, dCB, dIsi, dNext, dSeq, dBreak, dCont, dIfS, dRet, dRetN, dDrop, dSet, dList, dLst', dSetO, dApp, dSetIx, dAsg, dPar, gNm, gNl, gCn, gTp, dSeqOf, dRange1, dRange2, dEnum, dZip, dFor, dForL, dYes, retD, startD, outD, F1_at, F2_at, F3_at, ex2, ex3, sizeLine_eq, rAddD, rMulD, rCmpD, rEqD', rIsD, rInD', rIxD, rLenD, rI0, rDivD, rModD, rPowD, rSubD, ty_n, ty_b, ty_i, ty_s, ty_l, ty_t, ty_d, it_n, it_b, it_i, it_s, it_l, it_t, it_d, fl_n, fl_b, fl_i, fl_s, nn_n, nn_b, nn_i, nn_s, nn_l, nn_t, ln_l, ln_t, ix0, ix1, ix2, ixl1, ixl2, ixl3, ii_n, ii_b, ii_i, ii_s, ii_l, ii_t, ii_d, ev_ii, ev_ss, ev_nn, ev_bb, ev_tt, ev_ll, ev_tn, ev_nt, ev_in, ev_ni, ev_it, ev_ti, ev_st, ev_ts, ev_si, ev_is, ea_nn, ea_nc, ea_cn, ea_cc, st_0_0, st_0_1, st_0_2, st_0_3, st_0_4, st_1_0, st_1_1, st_1_2, st_1_3, st_1_4, st_2_0, st_2_1, st_2_2, st_2_3, st_2_4, st_3_0, st_3_1, st_3_2, st_3_3, st_3_4, st_4_0, st_4_1, st_4_2, st_4_3, st_4_4, so_0, so_1, so_2, so_3, so_4, shp, PyData.canLay0, PyData.canLayAll0, PyData.depth, PyData.depthAll, Way.d] at q ⊢
    refine dwn (N := n + 4) (by decide) (by decide) (by omega) hw fun w1 k1 a1 b1 c1 => ?_
    simp
    refine dwn (N := n + 4) (by decide) (by decide) (by omega) hw fun w2 k2 a2 b2 c2 => ?_
    simp
    refine ⟨(1 + k1, 1 + k2), rfl, ⟨by show 0 < 1 + k1; omega, by show 0 < 1 + k2; omega, ?_⟩, ?_⟩
    · have : (1 + k2).natAbs < 2 ^ 10 := by omega
      exact nb_le this (by decide)
    · have h1 : (1 + k1).natAbs < 2 ^ 10 := by omega
      have h2 : (1 + k2).natAbs < 2 ^ 10 := by omega
      obtain ⟨x, y, e, x1, y1, g, _⟩ := low_spec (p := 1 + k1) (q := 1 + k2) (by omega) (by omega)
      have hb := low_bd (p := 1 + k1) (q := 1 + k2) (by omega) (by omega) (nb_le h1 (show 10 ≤ 100 by decide)) (nb_le h2 (by decide))
      refine q w2 _ (by omega) ?_ hb
      show isNum .ch (low (1 + k1) (1 + k2)) = true
      rw [e]
      simp [isNum, x1, y1, g]
  | co =>
    simp [dVar, dC, dOp, dTest, dChain, dAnd, dOr, dNot, dAndV, dOrV, dNotV, dIf, dNil, dCons, dTup, dLst, dCallL, dRaiseL, dErr, dThunk, dNeg, dNoPart, dPart, dSl, dCB, dIsi, dNext, dSeq, dBreak, dCont, dIfS, dRet, dRetN, dDrop, dSet, dList, dLst', dSetO, dApp, dSetIx, dAsg, dPar, gNm, gNl, gCn, gTp, dSeqOf, dRange1, dRange2, dEnum, dZip, dFor, dForL, dYes, retD, startD, outD, F1_at, F2_at, F3_at, ex2, ex3, sizeLine_eq, rAddD, rMulD, rCmpD, rEqD', rIsD, rInD', rIxD, rLenD, rI0, rDivD, rModD, rPowD, rSubD, ty_n, ty_b, ty_i, ty_s, ty_l, ty_t, ty_d, it_n, it_b, it_i, it_s, it_l, it_t, it_d, fl_n, fl_b, fl_i, fl_s, nn_n, nn_b, nn_i, nn_s, nn_l, nn_t, ln_l, ln_t, ix0, ix1, ix2, ixl1, ixl2, ixl3, ii_n, ii_b, ii_i, ii_s, ii_l, ii_t, ii_d, ev_ii, ev_ss, ev_nn, ev_bb, ev_tt, ev_ll, ev_tn, ev_nt, ev_in, ev_ni, ev_it, ev_ti, ev_st, ev_ts, ev_si, ev_is, ea_nn, ea_nc, ea_cn, ea_cc, st_0_0, st_0_1, st_0_2, st_0_3, st_0_4, st_1_0, st_1_1, st_1_2, st_1_3, st_1_4, st_2_0, st_2_1, st_2_2, st_2_3, st_2_4, st_3_0, st_3_1, st_3_2, st_3_3, st_3_4, st_4_0, st_4_1, st_4_2, st_4_3, st_4_4, so_0, so_1, so_2, so_3, so_4, shp, PyData.canLay0, PyData.canLayAll0, PyData.depth, PyData.depthAll, Way.d] at q ⊢
    refine dwn (N := n + 4) (by decide) (by decide) (by omega) hw fun w1 k1 a1 b1 c1 => ?_
    simp
    refine dwn (N := n + 4) (by decide) (by decide) (by omega) hw fun w2 k2 a2 b2 c2 => ?_
    simp
    refine ofw (by simp) (by simp) (by omega) fun w3 y hw3 hy => ?_
    simp only [List.mem_cons, List.not_mem_nil, or_false] at hy
    rcases hy with rfl | rfl | rfl | rfl | rfl <;> refine q w3 _ (by omega) rfl (bd_int (by omega) (by decide))
  | lf m =>
    have h1 := hW.1
    have h2 := hW.2
    simp [dVar, dC, dOp, dTest, dChain, dAnd, dOr, dNot, dAndV, dOrV, dNotV, dIf, dNil, dCons, dTup, dLst, dCallL, dRaiseL, dErr, dThunk, dNeg, dNoPart, dPart, dSl, dCB, dIsi, dNext, dSeq, dBreak, dCont, dIfS, dRet, dRetN, dDrop, dSet, dList, dLst', dSetO, dApp, dSetIx, dAsg, dPar, gNm, gNl, gCn, gTp, dSeqOf, dRange1, dRange2, dEnum, dZip, dFor, dForL, dYes, retD, startD, outD, F1_at, F2_at, F3_at, ex2, ex3, sizeLine_eq, rAddD, rMulD, rCmpD, rEqD', rIsD, rInD', rIxD, rLenD, rI0, rDivD, rModD, rPowD, rSubD, ty_n, ty_b, ty_i, ty_s, ty_l, ty_t, ty_d, it_n, it_b, it_i, it_s, it_l, it_t, it_d, fl_n, fl_b, fl_i, fl_s, nn_n, nn_b, nn_i, nn_s, nn_l, nn_t, ln_l, ln_t, ix0, ix1, ix2, ixl1, ixl2, ixl3, ii_n, ii_b, ii_i, ii_s, ii_l, ii_t, ii_d, ev_ii, ev_ss, ev_nn, ev_bb, ev_tt, ev_ll, ev_tn, ev_nt, ev_in, ev_ni, ev_it, ev_ti, ev_st, ev_ts, ev_si, ev_is, ea_nn, ea_nc, ea_cn, ea_cc, st_0_0, st_0_1, st_0_2, st_0_3, st_0_4, st_1_0, st_1_1, st_1_2, st_1_3, st_1_4, st_2_0, st_2_1, st_2_2, st_2_3, st_2_4, st_3_0, st_3_1, st_3_2, st_3_3, st_3_4, st_4_0, st_4_1, st_4_2, st_4_3, st_4_4, so_0, so_1, so_2, so_3, so_4, shp, PyData.canLay0, PyData.canLayAll0, PyData.depth, PyData.depthAll, Way.d] at q ⊢
    refine dwn (N := n + 4) (by omega) (by omega) (by omega) hw fun w1 k1 a1 b1 c1 => ?_
    simp
    refine q w1 _ (by omega) (by simp [isNum]; omega) (bd_int (by omega) (by decide))
def sp__law_number (ca : Str → Addr) : SpD := GR (fun a : Way => [stTok, a.d]) (fun a => a.ok) 20 (fun a x => okNum a x ∧ bd 450 x)
theorem mo__law_number {ca : Str → Addr} : SpMono (sp__law_number ca) := GR.mo
theorem sc__law_number : FnScope ["m", "way"] ["m", "way"] (defScope s__law_number) := ⟨rfl, rfl, rfl, by decide +kernel, rfl, by decide +kernel, by decide +kernel⟩
theorem ok__law_number {w : World} {K : PySem.W.Frag} {mg : Str → Option Value} {base : Heap} {ca : Str → Addr} (T : Txt K mg ca) (h__law_draw : DOk prog w K mg base 2 "_law_draw" ["m", "limit"] (sp__law_draw ca)) (h__law_drawn_number : DOk prog w K mg base 4 "_law_drawn_number" ["m", "way"] (sp__law_drawn_number ca)) (h__law_lowest : DOk prog w K mg base 1 "_law_lowest" ["part", "whole"] (sp__law_lowest ca)) (h__law_of : DOk prog w K mg base 3 "_law_of" ["m", "some"] (sp__law_of ca)) (h__law_vast : DOk prog w K mg base 4 "_law_vast" ["m"] (sp__law_vast ca)) : DOk prog w K mg base 5 "_law_number" ["m", "way"] (sp__law_number ca) := by
  refine dok T.a__law_number sc__law_number (GR.len fun _ => rfl) fun f cdv A outer s S F H E hr => ⟨_, (pxs_cons (pxs_if (pxt_cmp (od_eq (Room.eqU hr)) (px_callL lets_cx h__law_draw mo__law_draw (hr.mono (by decide)) (pxa_cons (px_var 0 (pv 0)) (pxa_cons (px_c pe_int fun _ _ => .int _) pxa_nil))) (px_c pe_int fun _ _ => .int _) (nomark _)) (pxs_cons (pxs_ret (px_c pe_non fun _ _ => .non)) pxs_nil) pxs_nil) (pxs_cons (pxs_if (pxt_cmp (od_eq (Room.eqU hr)) (px_callL lets_cx h__law_draw mo__law_draw (hr.mono (by decide)) (pxa_cons (px_var 0 (pv 0)) (pxa_cons (px_c pe_int fun _ _ => .int _) pxa_nil))) (px_c pe_int fun _ _ => .int _) (nomark _)) (pxs_cons (pxs_ret (px_callL lets_cx h__law_drawn_number mo__law_drawn_number (hr.mono (by decide)) (pxa_cons (px_var 0 (pv 0)) (pxa_cons (px_var 1 (pv 1)) pxa_nil)))) pxs_nil) pxs_nil) (pxs_cons (pxs_if (pxt_cmp (od_eq (Room.eqU hr)) (px_ix id_ix (px_var 1 (pv 1)) (px_c pe_int fun _ _ => .int _) (fun _ _ => rfl)) (px_c pe_str fun _ _ => .str _) (nomark _)) (pxs_cons (pxs_ret (px_callL lets_cx h__law_vast mo__law_vast (hr.mono (by decide)) (pxa_cons (px_var 0 (pv 0)) pxa_nil))) pxs_nil) pxs_nil) (pxs_cons (pxs_if (pxt_cmp (od_eq (Room.eqU hr)) (px_ix id_ix (px_var 1 (pv 1)) (px_c pe_int fun _ _ => .int _) (fun _ _ => rfl)) (px_c pe_str fun _ _ => .str _) (nomark _)) (pxs_cons (pxs_ret (px_callL lets_cx h__law_lowest mo__law_lowest (hr.mono (by decide)) (pxa_cons (px_callL lets_cx h__law_vast mo__law_vast (hr.mono (by decide)) (pxa_cons (px_var 0 (pv 0)) pxa_nil)) (pxa_cons (px_callL lets_cx h__law_of mo__law_of (hr.mono (by decide)) (pxa_cons (px_var 0 (pv 0)) (pxa_cons (px_lst (pxa_cons (px_c pe_int fun _ _ => .int _) (pxa_cons (px_c pe_int fun _ _ => .int _) (pxa_cons (px_callL lets_cx h__law_vast mo__law_vast (hr.mono (by decide)) (pxa_cons (px_var 0 (pv 0)) pxa_nil)) pxa_nil)))) pxa_nil))) pxa_nil)))) pxs_nil) pxs_nil) (pxs_cons (pxs_if (pxt_cmp (od_eq (Room.eqU hr)) (px_ix id_ix (px_var 1 (pv 1)) (px_c pe_int fun _ _ => .int _) (fun _ _ => rfl)) (px_c pe_str fun _ _ => .str _) (nomark _)) (pxs_cons (pxs_ret (px_op od_mul (px_callL lets_cx h__law_of mo__law_of (hr.mono (by decide)) (pxa_cons (px_var 0 (pv 0)) (pxa_cons (px_lst (pxa_cons (px_c pe_int fun _ _ => .int _) (pxa_cons (px_neg (px_c pe_int fun _ _ => .int _)) pxa_nil))) pxa_nil))) (px_callL lets_cx h__law_vast mo__law_vast (hr.mono (by decide)) (pxa_cons (px_var 0 (pv 0)) pxa_nil)))) pxs_nil) pxs_nil) (pxs_cons (pxs_ret (px_callL lets_cx h__law_drawn_number mo__law_drawn_number (hr.mono (by decide)) (pxa_cons (px_var 0 (pv 0)) (pxa_cons (px_var 1 (pv 1)) pxa_nil)))) pxs_nil)))))), ?_⟩
  rintro ds n Q ⟨W, rfl, hW, hw, q⟩
  dsimp only at hW q ⊢
  have vast : ∀ {w1 : Nat} {Q' : Nat → D → Prop} {E' : ED}, w1 + 7 ≤ n + 20 → (∀ (w2 : Nat) (k : Int), w2 ≤ w1 + 7 → 0 < k → k.natAbs < 2 ^ 420 → Q' w2 (.int k)) → sp__law_vast ca [stTok] w1 Q' E' := fun h q => ⟨(), rfl, trivial, by omega, fun w2 x h2 ⟨k, e, a, b⟩ => by subst e; exact q w2 k h2 a b⟩
  have small : ∀ {w1 : Nat} {E' : ED} {Q' : Nat → D → Prop}, w1 + 4 ≤ n + 20 → (∀ w' x, w' ≤ n + 20 → okNum W x → bd 450 x → Q' w' x) → sp__law_drawn_number ca [stTok, W.d] w1 Q' E' := fun h q => ⟨W, rfl, hW, by omega, fun w2 x h2 ⟨a, b⟩ => q w2 x (by omega) (.inr a) (bd_le b (by decide))⟩
  cases W with
  | wh =>
    simp [dVar, dC, dOp, dTest, dChain, dAnd, dOr, dNot, dAndV, dOrV, dNotV, dIf, dNil, dCons, dTup, dLst, dCallL, dRaiseL, dErr, dThunk, dNeg, dNoPart, dPart, dSl, dCB, dIsi, dNext, dSeq, dBreak, dCont, dIfS, dRet, dRetN, dDrop, dSet, dList, dLst', dSetO, dApp, dSetIx, dAsg, dPar, gNm, gNl, gCn, gTp, dSeqOf, dRange1, dRange2, dEnum, dZip, dFor, dForL, dYes, retD, startD, outD, F1_at, F2_at, F3_at, ex2, ex3, sizeLine_eq, rAddD, rMulD, rCmpD, rEqD', rIsD, rInD', rIxD, rLenD, rI0, rDivD, rModD, rPowD, rSubD, ty_n, ty_b, ty_i, ty_s, ty_l, ty_t, ty_d, it_n, it_b, it_i, it_s, it_l, it_t, it_d, fl_n, fl_b, fl_i, fl_s, nn_n, nn_b, nn_i, nn_s, nn_l, nn_t, ln_l, ln_t, ix0, ix1, ix2, ixl1, ixl2, ixl3, ii_n, ii_b, ii_i, ii_s, ii_l, ii_t, ii_d, ev_ii, ev_ss, ev_nn, ev_bb, ev_tt, ev_ll, ev_tn, ev_nt, ev_in, ev_ni, ev_it, ev_ti, ev_st, ev_ts, ev_si, ev_is, ea_nn, ea_nc, ea_cn, ea_cc, st_0_0, st_0_1, st_0_2, st_0_3, st_0_4, st_1_0, st_1_1, st_1_2, st_1_3, st_1_4, st_2_0, st_2_1, st_2_2, st_2_3, st_2_4, st_3_0, st_3_1, st_3_2, st_3_3, st_3_4, st_4_0, st_4_1, st_4_2, st_4_3, st_4_4, so_0, so_1, so_2, so_3, so_4, Way.d] at q ⊢
    refine dwn (N := n + 20) (by decide) (by decide) (by omega) hw fun w1 k1 a1 b1 c1 => ?_
    refine ⟨by simp [shp, PyData.canLay0, PyData.canLayAll0, PyData.depth, PyData.depthAll], by simp [shp, PyData.canLay0, PyData.canLayAll0, PyData.depth, PyData.depthAll], ?_⟩
    by_cases z1 : k1 = 0
    · subst z1
      simp [ev_ii]
      exact q w1 _ (by omega) (.inl rfl) trivial
    simp [ev_ii, z1]
    refine dwn (N := n + 20) (by decide) (by decide) (by omega) hw fun w2 k2 a2 b2 c2 => ?_
    refine ⟨by simp [shp, PyData.canLay0, PyData.canLayAll0, PyData.depth, PyData.depthAll], by simp [shp, PyData.canLay0, PyData.canLayAll0, PyData.depth, PyData.depthAll], ?_⟩
    by_cases z2 : k2 = 0
    · subst z2
      simp [ev_ii]
      exact small (by omega) q
    simp [ev_ii, z2, shp, PyData.canLay0, PyData.canLayAll0, PyData.depth, PyData.depthAll, st_0_0, st_0_1, st_0_2, st_0_3, st_0_4, st_1_0, st_1_1, st_1_2, st_1_3, st_1_4, st_2_0, st_2_1, st_2_2, st_2_3, st_2_4, st_3_0, st_3_1, st_3_2, st_3_3, st_3_4, st_4_0, st_4_1, st_4_2, st_4_3, st_4_4, so_0, so_1, so_2, so_3, so_4]
    exact small (by omega) q
  | ct =>
    simp [dVar, dC, dOp, dTest, dChain, dAnd, dOr, dNot, dAndV, dOrV, dNotV, dIf, dNil, dCons, dTup, dLst, dCallL, dRaiseL, dErr, dThunk, dNeg, dNoPart, dPart, dSl, dCB, dIsi, dNext, dSeq, dBreak, dCont, dIfS, dRet, dRetN, dDrop, dSet, dList, dLst', dSetO, dApp, dSetIx, dAsg, dPar, gNm, gNl, gCn, gTp, dSeqOf, dRange1, dRange2, dEnum, dZip, dFor, dForL, dYes, retD, startD, outD, F1_at, F2_at, F3_at, ex2, ex3, sizeLine_eq, rAddD, rMulD, rCmpD, rEqD', rIsD, rInD', rIxD, rLenD, rI0, rDivD, rModD, rPowD, rSubD, ty_n, ty_b, ty_i, ty_s, ty_l, ty_t, ty_d, it_n, it_b, it_i, it_s, it_l, it_t, it_d, fl_n, fl_b, fl_i, fl_s, nn_n, nn_b, nn_i, nn_s, nn_l, nn_t, ln_l, ln_t, ix0, ix1, ix2, ixl1, ixl2, ixl3, ii_n, ii_b, ii_i, ii_s, ii_l, ii_t, ii_d, ev_ii, ev_ss, ev_nn, ev_bb, ev_tt, ev_ll, ev_tn, ev_nt, ev_in, ev_ni, ev_it, ev_ti, ev_st, ev_ts, ev_si, ev_is, ea_nn, ea_nc, ea_cn, ea_cc, st_0_0, st_0_1, st_0_2, st_0_3, st_0_4, st_1_0, st_1_1, st_1_2, st_1_3, st_1_4, st_2_0, st_2_1, st_2_2, st_2_3, st_2_4, st_3_0, st_3_1, st_3_2, st_3_3, st_3_4, st_4_0, st_4_1, st_4_2, st_4_3, st_4_4, so_0, so_1, so_2, so_3, so_4, Way.d] at q ⊢
    refine dwn (N := n + 20) (by decide) (by decide) (by omega) hw fun w1 k1 a1 b1 c1 => ?_
    refine ⟨by simp [shp, PyData.canLay0, PyData.canLayAll0, PyData.depth, PyData.depthAll], by simp [shp, PyData.canLay0, PyData.canLayAll0, PyData.depth, PyData.depthAll], ?_⟩
    by_cases z1 : k1 = 0
    · subst z1
      simp [ev_ii]
      exact q w1 _ (by omega) (.inl rfl) trivial
    simp [ev_ii, z1]
    refine dwn (N := n + 20) (by decide) (by decide) (by omega) hw fun w2 k2 a2 b2 c2 => ?_
    refine ⟨by simp [shp, PyData.canLay0, PyData.canLayAll0, PyData.depth, PyData.depthAll], by simp [shp, PyData.canLay0, PyData.canLayAll0, PyData.depth, PyData.depthAll], ?_⟩
    by_cases z2 : k2 = 0
    · subst z2
      simp [ev_ii]
      exact small (by omega) q
    simp [ev_ii, z2, shp, PyData.canLay0, PyData.canLayAll0, PyData.depth, PyData.depthAll, st_0_0, st_0_1, st_0_2, st_0_3, st_0_4, st_1_0, st_1_1, st_1_2, st_1_3, st_1_4, st_2_0, st_2_1, st_2_2, st_2_3, st_2_4, st_3_0, st_3_1, st_3_2, st_3_3, st_3_4, st_4_0, st_4_1, st_4_2, st_4_3, st_4_4, so_0, so_1, so_2, so_3, so_4]
    refine vast (by omega) fun w3 k3 a3 b3 c3 => ?_
    exact q w3 _ (by omega) (.inr (by simp [isNum]; exact b3)) (nb_le c3 (by decide))
  | ch =>
    simp [dVar, dC, dOp, dTest, dChain, dAnd, dOr, dNot, dAndV, dOrV, dNotV, dIf, dNil, dCons, dTup, dLst, dCallL, dRaiseL, dErr, dThunk, dNeg, dNoPart, dPart, dSl, dCB, dIsi, dNext, dSeq, dBreak, dCont, dIfS, dRet, dRetN, dDrop, dSet, dList, dLst', dSetO, dApp, dSetIx, dAsg, dPar, gNm, gNl, gCn, gTp, dSeqOf, dRange1, dRange2, dEnum, dZip, dFor, dForL, dYes, retD, startD, outD, F1_at, F2_at, F3_at, ex2, ex3, sizeLine_eq, rAddD, rMulD, rCmpD, rEqD', rIsD, rInD', rIxD, rLenD, rI0, rDivD, rModD, rPowD, rSubD, ty_n, ty_b, ty_i, ty_s, ty_l, ty_t, ty_d, it_n, it_b, it_i, it_s, it_l, it_t, it_d, fl_n, fl_b, fl_i, fl_s, nn_n, nn_b, nn_i, nn_s, nn_l, nn_t, ln_l, ln_t, ix0, ix1, ix2, ixl1, ixl2, ixl3, ii_n, ii_b, ii_i, ii_s, ii_l, ii_t, ii_d, ev_ii, ev_ss, ev_nn, ev_bb, ev_tt, ev_ll, ev_tn, ev_nt, ev_in, ev_ni, ev_it, ev_ti, ev_st, ev_ts, ev_si, ev_is, ea_nn, ea_nc, ea_cn, ea_cc, st_0_0, st_0_1, st_0_2, st_0_3, st_0_4, st_1_0, st_1_1, st_1_2, st_1_3, st_1_4, st_2_0, st_2_1, st_2_2, st_2_3, st_2_4, st_3_0, st_3_1, st_3_2, st_3_3, st_3_4, st_4_0, st_4_1, st_4_2, st_4_3, st_4_4, so_0, so_1, so_2, so_3, so_4, Way.d] at q ⊢
    refine dwn (N := n + 20) (by decide) (by decide) (by omega) hw fun w1 k1 a1 b1 c1 => ?_
    refine ⟨by simp [shp, PyData.canLay0, PyData.canLayAll0, PyData.depth, PyData.depthAll], by simp [shp, PyData.canLay0, PyData.canLayAll0, PyData.depth, PyData.depthAll], ?_⟩
    by_cases z1 : k1 = 0
    · subst z1
      simp [ev_ii]
      exact q w1 _ (by omega) (.inl rfl) trivial
    simp [ev_ii, z1]
    refine dwn (N := n + 20) (by decide) (by decide) (by omega) hw fun w2 k2 a2 b2 c2 => ?_
    refine ⟨by simp [shp, PyData.canLay0, PyData.canLayAll0, PyData.depth, PyData.depthAll], by simp [shp, PyData.canLay0, PyData.canLayAll0, PyData.depth, PyData.depthAll], ?_⟩
    by_cases z2 : k2 = 0
    · subst z2
      simp [ev_ii]
      exact small (by omega) q
    simp [ev_ii, z2, shp, PyData.canLay0, PyData.canLayAll0, PyData.depth, PyData.depthAll, st_0_0, st_0_1, st_0_2, st_0_3, st_0_4, st_1_0, st_1_1, st_1_2, st_1_3, st_1_4, st_2_0, st_2_1, st_2_2, st_2_3, st_2_4, st_3_0, st_3_1, st_3_2, st_3_3, st_3_4, st_4_0, st_4_1, st_4_2, st_4_3, st_4_4, so_0, so_1, so_2, so_3, so_4]
    refine vast (by omega) fun w3 k3 a3 b3 c3 => ?_
    try simp
    refine vast (by omega) fun w4 k4 a4 b4 c4 => ?_
    try simp
    refine ofw (by simp) (by simp) (by omega) fun w5 y hw5 hy => ?_
    simp only [List.mem_cons, List.not_mem_nil, or_false] at hy
    obtain ⟨l, rfl, l0, lb⟩ : ∃ l : Int, y = .int l ∧ 0 < l ∧ l.natAbs < 2 ^ 420 := by
      rcases hy with rfl | rfl | rfl
      · exact ⟨1, rfl, by decide, nb_le (A := 10) (by decide) (by decide)⟩
      · exact ⟨7, rfl, by decide, nb_le (A := 10) (by decide) (by decide)⟩
      · exact ⟨k4, rfl, b4, c4⟩
    refine ⟨(k3, l), rfl, ⟨b3, l0, nb_le lb (by decide)⟩, ?_⟩
    obtain ⟨x, y, e, x1, y1, g, _⟩ := low_spec (p := k3) (q := l) b3 l0
    have hb := low_bd (p := k3) (q := l) b3 l0 (nb_le c3 (show 420 ≤ 450 by decide)) (nb_le lb (by decide))
    refine q w5 _ (by omega) (.inr ?_) hb
    show isNum .ch (low k3 l) = true
    rw [e]
    simp [isNum, x1, y1, g]
  | co =>
    simp [dVar, dC, dOp, dTest, dChain, dAnd, dOr, dNot, dAndV, dOrV, dNotV, dIf, dNil, dCons, dTup, dLst, dCallL, dRaiseL, dErr, dThunk, dNeg, dNoPart, dPart, dSl, dCB, dIsi, dNext, dSeq, dBreak, dCont, dIfS, dRet, dRetN, dDrop, dSet, dList, dLst', dSetO, dApp, dSetIx, dAsg, dPar, gNm, gNl, gCn, gTp, dSeqOf, dRange1, dRange2, dEnum, dZip, dFor, dForL, dYes, retD, startD, outD, F1_at, F2_at, F3_at, ex2, ex3, sizeLine_eq, rAddD, rMulD, rCmpD, rEqD', rIsD, rInD', rIxD, rLenD, rI0, rDivD, rModD, rPowD, rSubD, ty_n, ty_b, ty_i, ty_s, ty_l, ty_t, ty_d, it_n, it_b, it_i, it_s, it_l, it_t, it_d, fl_n, fl_b, fl_i, fl_s, nn_n, nn_b, nn_i, nn_s, nn_l, nn_t, ln_l, ln_t, ix0, ix1, ix2, ixl1, ixl2, ixl3, ii_n, ii_b, ii_i, ii_s, ii_l, ii_t, ii_d, ev_ii, ev_ss, ev_nn, ev_bb, ev_tt, ev_ll, ev_tn, ev_nt, ev_in, ev_ni, ev_it, ev_ti, ev_st, ev_ts, ev_si, ev_is, ea_nn, ea_nc, ea_cn, ea_cc, st_0_0, st_0_1, st_0_2, st_0_3, st_0_4, st_1_0, st_1_1, st_1_2, st_1_3, st_1_4, st_2_0, st_2_1, st_2_2, st_2_3, st_2_4, st_3_0, st_3_1, st_3_2, st_3_3, st_3_4, st_4_0, st_4_1, st_4_2, st_4_3, st_4_4, so_0, so_1, so_2, so_3, so_4, Way.d] at q ⊢
    refine dwn (N := n + 20) (by decide) (by decide) (by omega) hw fun w1 k1 a1 b1 c1 => ?_
    refine ⟨by simp [shp, PyData.canLay0, PyData.canLayAll0, PyData.depth, PyData.depthAll], by simp [shp, PyData.canLay0, PyData.canLayAll0, PyData.depth, PyData.depthAll], ?_⟩
    by_cases z1 : k1 = 0
    · subst z1
      simp [ev_ii]
      exact q w1 _ (by omega) (.inl rfl) trivial
    simp [ev_ii, z1]
    refine dwn (N := n + 20) (by decide) (by decide) (by omega) hw fun w2 k2 a2 b2 c2 => ?_
    refine ⟨by simp [shp, PyData.canLay0, PyData.canLayAll0, PyData.depth, PyData.depthAll], by simp [shp, PyData.canLay0, PyData.canLayAll0, PyData.depth, PyData.depthAll], ?_⟩
    by_cases z2 : k2 = 0
    · subst z2
      simp [ev_ii]
      exact small (by omega) q
    simp [ev_ii, z2, shp, PyData.canLay0, PyData.canLayAll0, PyData.depth, PyData.depthAll, st_0_0, st_0_1, st_0_2, st_0_3, st_0_4, st_1_0, st_1_1, st_1_2, st_1_3, st_1_4, st_2_0, st_2_1, st_2_2, st_2_3, st_2_4, st_3_0, st_3_1, st_3_2, st_3_3, st_3_4, st_4_0, st_4_1, st_4_2, st_4_3, st_4_4, so_0, so_1, so_2, so_3, so_4]
    refine ofw (by simp) (by simp) (by omega) fun w3 y hw3 hy => ?_
    simp only [List.mem_cons, List.not_mem_nil, or_false] at hy
    obtain ⟨l, rfl, lb⟩ : ∃ l : Int, y = .int l ∧ l.natAbs < 2 ^ 10 := by
      rcases hy with rfl | rfl
      · exact ⟨1, rfl, by decide⟩
      · exact ⟨-1, rfl, by decide⟩
    refine vast (by omega) fun w4 k4 a4 b4 c4 => ?_
    have l1 := log_mul (i := l) (j := k4) (nb_le lb (by decide)) (nb_le c4 (by decide))
    simp [l1]
    exact q w4 _ (by omega) (.inr rfl) (nb_le (nb_mul lb c4) (by decide))
  | lf m =>
    simp [dVar, dC, dOp, dTest, dChain, dAnd, dOr, dNot, dAndV, dOrV, dNotV, dIf, dNil, dCons, dTup, dLst, dCallL, dRaiseL, dErr, dThunk, dNeg, dNoPart, dPart, dSl, dCB, dIsi, dNext, dSeq, dBreak, dCont, dIfS, dRet, dRetN, dDrop, dSet, dList, dLst', dSetO, dApp, dSetIx, dAsg, dPar, gNm, gNl, gCn, gTp, dSeqOf, dRange1, dRange2, dEnum, dZip, dFor, dForL, dYes, retD, startD, outD, F1_at, F2_at, F3_at, ex2, ex3, sizeLine_eq, rAddD, rMulD, rCmpD, rEqD', rIsD, rInD', rIxD, rLenD, rI0, rDivD, rModD, rPowD, rSubD, ty_n, ty_b, ty_i, ty_s, ty_l, ty_t, ty_d, it_n, it_b, it_i, it_s, it_l, it_t, it_d, fl_n, fl_b, fl_i, fl_s, nn_n, nn_b, nn_i, nn_s, nn_l, nn_t, ln_l, ln_t, ix0, ix1, ix2, ixl1, ixl2, ixl3, ii_n, ii_b, ii_i, ii_s, ii_l, ii_t, ii_d, ev_ii, ev_ss, ev_nn, ev_bb, ev_tt, ev_ll, ev_tn, ev_nt, ev_in, ev_ni, ev_it, ev_ti, ev_st, ev_ts, ev_si, ev_is, ea_nn, ea_nc, ea_cn, ea_cc, st_0_0, st_0_1, st_0_2, st_0_3, st_0_4, st_1_0, st_1_1, st_1_2, st_1_3, st_1_4, st_2_0, st_2_1, st_2_2, st_2_3, st_2_4, st_3_0, st_3_1, st_3_2, st_3_3, st_3_4, st_4_0, st_4_1, st_4_2, st_4_3, st_4_4, so_0, so_1, so_2, so_3, so_4, Way.d] at q ⊢
    refine dwn (N := n + 20) (by decide) (by decide) (by omega) hw fun w1 k1 a1 b1 c1 => ?_
    refine ⟨by simp [shp, PyData.canLay0, PyData.canLayAll0, PyData.depth, PyData.depthAll], by simp [shp, PyData.canLay0, PyData.canLayAll0, PyData.depth, PyData.depthAll], ?_⟩
    by_cases z1 : k1 = 0
    · subst z1
      simp [ev_ii]
      exact q w1 _ (by omega) (.inl rfl) trivial
    simp [ev_ii, z1]
    refine dwn (N := n + 20) (by decide) (by decide) (by omega) hw fun w2 k2 a2 b2 c2 => ?_
    refine ⟨by simp [shp, PyData.canLay0, PyData.canLayAll0, PyData.depth, PyData.depthAll], by simp [shp, PyData.canLay0, PyData.canLayAll0, PyData.depth, PyData.depthAll], ?_⟩
    by_cases z2 : k2 = 0
    · subst z2
      simp [ev_ii]
      exact small (by omega) q
    simp [ev_ii, z2, shp, PyData.canLay0, PyData.canLayAll0, PyData.depth, PyData.depthAll, st_0_0, st_0_1, st_0_2, st_0_3, st_0_4, st_1_0, st_1_1, st_1_2, st_1_3, st_1_4, st_2_0, st_2_1, st_2_2, st_2_3, st_2_4, st_3_0, st_3_1, st_3_2, st_3_3, st_3_4, st_4_0, st_4_1, st_4_2, st_4_3, st_4_4, so_0, so_1, so_2, so_3, so_4]
    exact small (by omega) q
end LK
end
section
set_option Elab.async false
set_option linter.all false
set_option maxRecDepth 100000
set_option maxHeartbeats 4000000
set_option autoImplicit false
namespace LK
open PySem PySem.Spec PyProof.Rows L2 PL
theorem low_eqv {p q : Int} (hp : 0 < p) (hq : 0 < q) : PyData.eqv (low p q) (.tuple [.int p, .int q]) = decide (gg p q = 1) := by
  have g := gg_pos (p := p) hq
  unfold low
  simp only [ev_tt, ea_cc, ea_nn, ev_ii, Bool.and_true]
  by_cases h : gg p q = 1
  · simp [h]
  · have : q / gg p q < q := Int.ediv_lt_self_of_pos_of_ne_one hq (by omega)
    have n : ¬ (q / gg p q = q) := by omega
    simp [h, n]
def sp__law_are_whole (ca : Str → Addr) : SpD := GS (fun a : D × D => [.tuple [a.1, a.2], .int 2]) (fun a => shp (.tuple [a.1, a.2])) (fun a => .ok (.bool (isI a.1 && isI a.2)))
theorem mo__law_are_whole {ca : Str → Addr} : SpMono (sp__law_are_whole ca) := GS.mo
theorem sc__law_are_whole : FnScope ["value", "many", "one"] ["value", "many"] (defScope s__law_are_whole) := ⟨rfl, rfl, rfl, by decide +kernel, rfl, by decide +kernel, by decide +kernel⟩
theorem ok__law_are_whole {w : World} {K : PySem.W.Frag} {mg : Str → Option Value} {base : Heap} {ca : Str → Addr} (T : Txt K mg ca) (h__law_is_whole : DOk prog w K mg base 1 "_law_is_whole" ["value"] (sp__law_is_whole ca)) : DOk prog w K mg base 2 "_law_are_whole" ["value", "many"] (sp__law_are_whole ca) := by
  refine dok T.a__law_are_whole sc__law_are_whole (GS.len fun _ => rfl) fun f cdv A outer s S F H E hr => ⟨_, (pxs_cons (pxs_ret (px_and (px_isi (by decide) rfl T.b_isinstance rfl T.b_tuple rfl (px_var 0 (pv 0))) (px_and (px_cmp (od_eq (Room.eqU hr)) (px_callB cd_len rfl T.b_len rfl (pxa_cons (px_var 0 (pv 0)) pxa_nil)) (px_var 1 (pv 1)) (nomark _)) (px_one (px_cmp (od_eq (Room.eqU hr)) (px_ofN (xn_lc (own := [("one", 2)]) rfl sc__law_are_whole.nd (PXI.toC (pxi_seq (px_var 0 (pv 0)))) (blkOk_by rfl) (fun s H C cl fp => (pxg_name 2 sc__law_are_whole.nd rfl (.inl rfl))) (fun s H C cl fp => (pxts_one (pxt_not (pxt_val (px_callL lets_no h__law_is_whole mo__law_is_whole (hr.mono (by decide)) (pxa_cons (px_var 2 (pv 2)) pxa_nil)))))) (fun s H C cl fp => (px_c pe_int fun _ _ => .int _)) (by decide))) (px_lst pxa_nil) (nomark _)))))) pxs_nil), ?_⟩
  rintro ds n Q ⟨⟨a, b⟩, rfl, hx, q⟩
  dsimp only at hx q ⊢
  have ta : (tyD a).isSome = true := shn_ty (shn_tup.mp (show shn (63 + 1) _ from hx) a (by simp))
  have tb : (tyD b).isSome = true := shn_ty (shn_tup.mp (show shn (63 + 1) _ from hx) b (by simp))
  cases ha : isI a <;> cases hb : isI b <;> simp [dVar, dC, dOp, dTest, dChain, dAnd, dOr, dNot, dAndV, dOrV, dNotV, dIf, dNil, dCons, dTup, dLst, dCallL, dRaiseL, dErr, dThunk, dNeg, dNoPart, dPart, dSl, dCB, dIsi, dNext, dSeq, dBreak, dCont, dIfS, dRet, dRetN, dDrop, dSet, dList, dLst', dSetO, dApp, dSetIx, dAsg, dPar, gNm, gNl, gCn, gTp, dSeqOf, dRange1, dRange2, dEnum, dZip, dFor, dForL, dYes, retD, startD, outD, F1_at, F2_at, F3_at, ex2, ex3, sizeLine_eq, rAddD, rMulD, rCmpD, rEqD', rIsD, rInD', rIxD, rLenD, rI0, rDivD, rModD, rPowD, rSubD, ty_n, ty_b, ty_i, ty_s, ty_l, ty_t, ty_d, it_n, it_b, it_i, it_s, it_l, it_t, it_d, fl_n, fl_b, fl_i, fl_s, nn_n, nn_b, nn_i, nn_s, nn_l, nn_t, ln_l, ln_t, ix0, ix1, ix2, ixl1, ixl2, ixl3, ii_n, ii_b, ii_i, ii_s, ii_l, ii_t, ii_d, ev_ii, ev_ss, ev_nn, ev_bb, ev_tt, ev_ll, ev_tn, ev_nt, ev_in, ev_ni, ev_it, ev_ti, ev_st, ev_ts, ev_si, ev_is, ea_nn, ea_nc, ea_cn, ea_cc, st_0_0, st_0_1, st_0_2, st_0_3, st_0_4, st_1_0, st_1_1, st_1_2, st_1_3, st_1_4, st_2_0, st_2_1, st_2_2, st_2_3, st_2_4, st_3_0, st_3_1, st_3_2, st_3_3, st_3_4, st_4_0, st_4_1, st_4_2, st_4_3, st_4_4, so_0, so_1, so_2, so_3, so_4, shp, PyData.canLay0, PyData.canLayAll0, PyData.depth, PyData.depthAll, dLc, dLcL, wipeD, sp__law_is_whole, ha, hb, ta, tb] at q ⊢ <;> exact q
def sp__law_is_number (ca : Str → Addr) : SpD := GS (fun a : Way × D => [a.1.d, a.2]) (fun a => a.1.ok ∧ shp a.2 ∧ ∀ p q : Int, a.2 = .tuple [.int p, .int q] → q.natAbs < 2 ^ 8000) (fun a => .ok (.bool (isNum a.1 a.2)))
theorem mo__law_is_number {ca : Str → Addr} : SpMono (sp__law_is_number ca) := GS.mo
theorem sc__law_is_number : FnScope ["way", "value"] ["way", "value"] (defScope s__law_is_number) := ⟨rfl, rfl, rfl, by decide +kernel, rfl, by decide +kernel, by decide +kernel⟩
theorem ok__law_is_number {w : World} {K : PySem.W.Frag} {mg : Str → Option Value} {base : Heap} {ca : Str → Addr} (T : Txt K mg ca) (h__law_are_whole : DOk prog w K mg base 2 "_law_are_whole" ["value", "many"] (sp__law_are_whole ca)) (h__law_is_whole : DOk prog w K mg base 1 "_law_is_whole" ["value"] (sp__law_is_whole ca)) (h__law_lowest : DOk prog w K mg base 1 "_law_lowest" ["part", "whole"] (sp__law_lowest ca)) : DOk prog w K mg base 3 "_law_is_number" ["way", "value"] (sp__law_is_number ca) := by
  refine dok T.a__law_is_number sc__law_is_number (GS.len fun _ => rfl) fun f cdv A outer s S F H E hr => ⟨_, (pxs_cons (pxs_if (pxt_cmp (od_eq (Room.eqU hr)) (px_ix id_ix (px_var 0 (pv 0)) (px_c pe_int fun _ _ => .int _) (fun _ _ => rfl)) (px_c pe_str fun _ _ => .str _) (nomark _)) (pxs_cons (pxs_if (PXW.pt (pxw_or (pxt_not (pxt_val (px_isi (by decide) rfl T.b_isinstance rfl T.b_tuple rfl (px_var 1 (pv 1))))) (pxw_or (pxt_cmp (od_ne (Room.eqU hr)) (px_callB cd_len rfl T.b_len rfl (pxa_cons (px_var 1 (pv 1)) pxa_nil)) (px_c pe_int fun _ _ => .int _) (nomark _)) (pxw_or (pxt_not (pxt_val (px_callL lets_cx h__law_are_whole mo__law_are_whole (hr.mono (by decide)) (pxa_cons (px_var 1 (pv 1)) (pxa_cons (px_c pe_int fun _ _ => .int _) pxa_nil))))) (pxw_or1 (pxt_cmp od_lt (px_ix id_ix (px_var 1 (pv 1)) (px_c pe_int fun _ _ => .int _) (fun _ _ => rfl)) (px_c pe_int fun _ _ => .int _) (nomark _))))))) (pxs_cons (pxs_ret (px_c pe_bl fun _ _ => .bl _)) pxs_nil) pxs_nil) (pxs_cons (pxs_ret (px_and (px_cmp od_gt (px_ix id_ix (px_var 1 (pv 1)) (px_c pe_int fun _ _ => .int _) (fun _ _ => rfl)) (px_c pe_int fun _ _ => .int _) (nomark _)) (px_one (px_cmp (od_eq (Room.eqU hr)) (px_callL lets_cx h__law_lowest mo__law_lowest (hr.mono (by decide)) (pxa_cons (px_ix id_ix (px_var 1 (pv 1)) (px_c pe_int fun _ _ => .int _) (fun _ _ => rfl)) (pxa_cons (px_ix id_ix (px_var 1 (pv 1)) (px_c pe_int fun _ _ => .int _) (fun _ _ => rfl)) pxa_nil))) (px_var 1 (pv 1)) (nomark _))))) pxs_nil)) pxs_nil) (pxs_cons (pxs_if (pxt_not (pxt_val (px_callL lets_cx h__law_is_whole mo__law_is_whole (hr.mono (by decide)) (pxa_cons (px_var 1 (pv 1)) pxa_nil)))) (pxs_cons (pxs_ret (px_c pe_bl fun _ _ => .bl _)) pxs_nil) pxs_nil) (pxs_cons (pxs_if (pxt_cmp (od_eq (Room.eqU hr)) (px_ix id_ix (px_var 0 (pv 0)) (px_c pe_int fun _ _ => .int _) (fun _ _ => rfl)) (px_c pe_str fun _ _ => .str _) (nomark _)) (pxs_cons (pxs_ret (px_chain od_lt od_lt (px_c pe_int fun _ _ => .int _) (px_var 1 (pv 1)) (px_ix id_ix (px_var 0 (pv 0)) (px_c pe_int fun _ _ => .int _) (fun _ _ => rfl)))) pxs_nil) pxs_nil) (pxs_cons (pxs_ret (px_or (px_cmp (od_eq (Room.eqU hr)) (px_ix id_ix (px_var 0 (pv 0)) (px_c pe_int fun _ _ => .int _) (fun _ _ => rfl)) (px_c pe_str fun _ _ => .str _) (nomark _)) (px_one (px_if (pxt_cmp (od_eq (Room.eqU hr)) (px_ix id_ix (px_var 0 (pv 0)) (px_c pe_int fun _ _ => .int _) (fun _ _ => rfl)) (px_c pe_str fun _ _ => .str _) (nomark _)) (px_cmp (od_eq (Room.eqU hr)) (px_var 1 (pv 1)) (px_c pe_int fun _ _ => .int _) (nomark _)) (px_cmp od_gt (px_var 1 (pv 1)) (px_c pe_int fun _ _ => .int _) (nomark _)))))) pxs_nil)))), ?_⟩
  rintro ds n Q ⟨⟨W, x⟩, rfl, ⟨hW, hx, hB⟩, q⟩
  dsimp only at hW hx hB q ⊢
  have tx := shn_ty hx
  by_cases hc : W = .ch
  · subst hc
    cases x with
    | tuple xs =>
      rcases xs with _ | ⟨a, _ | ⟨b, _ | ⟨c, r⟩⟩⟩
      · simp [dVar, dC, dOp, dTest, dChain, dAnd, dOr, dNot, dAndV, dOrV, dNotV, dIf, dNil, dCons, dTup, dLst, dCallL, dRaiseL, dErr, dThunk, dNeg, dNoPart, dPart, dSl, dCB, dIsi, dNext, dSeq, dBreak, dCont, dIfS, dRet, dRetN, dDrop, dSet, dList, dLst', dSetO, dApp, dSetIx, dAsg, dPar, gNm, gNl, gCn, gTp, dSeqOf, dRange1, dRange2, dEnum, dZip, dFor, dForL, dYes, retD, startD, outD, F1_at, F2_at, F3_at, ex2, ex3, sizeLine_eq, rAddD, rMulD, rCmpD, rEqD', rIsD, rInD', rIxD, rLenD, rI0, rDivD, rModD, rPowD, rSubD, ty_n, ty_b, ty_i, ty_s, ty_l, ty_t, ty_d, it_n, it_b, it_i, it_s, it_l, it_t, it_d, fl_n, fl_b, fl_i, fl_s, nn_n, nn_b, nn_i, nn_s, nn_l, nn_t, ln_l, ln_t, ix0, ix1, ix2, ixl1, ixl2, ixl3, ii_n, ii_b, ii_i, ii_s, ii_l, ii_t, ii_d, ev_ii, ev_ss, ev_nn, ev_bb, ev_tt, ev_ll, ev_tn, ev_nt, ev_in, ev_ni, ev_it, ev_ti, ev_st, ev_ts, ev_si, ev_is, ea_nn, ea_nc, ea_cn, ea_cc, st_0_0, st_0_1, st_0_2, st_0_3, st_0_4, st_1_0, st_1_1, st_1_2, st_1_3, st_1_4, st_2_0, st_2_1, st_2_2, st_2_3, st_2_4, st_3_0, st_3_1, st_3_2, st_3_3, st_3_4, st_4_0, st_4_1, st_4_2, st_4_3, st_4_4, so_0, so_1, so_2, so_3, so_4, shp, PyData.canLay0, PyData.canLayAll0, PyData.depth, PyData.depthAll, Way.d, isNum] at q ⊢
        exact q
      · simp [dVar, dC, dOp, dTest, dChain, dAnd, dOr, dNot, dAndV, dOrV, dNotV, dIf, dNil, dCons, dTup, dLst, dCallL, dRaiseL, dErr, dThunk, dNeg, dNoPart, dPart, dSl, dCB, dIsi, dNext, dSeq, dBreak, dCont, dIfS, dRet, dRetN, dDrop, dSet, dList, dLst', dSetO, dApp, dSetIx, dAsg, dPar, gNm, gNl, gCn, gTp, dSeqOf, dRange1, dRange2, dEnum, dZip, dFor, dForL, dYes, retD, startD, outD, F1_at, F2_at, F3_at, ex2, ex3, sizeLine_eq, rAddD, rMulD, rCmpD, rEqD', rIsD, rInD', rIxD, rLenD, rI0, rDivD, rModD, rPowD, rSubD, ty_n, ty_b, ty_i, ty_s, ty_l, ty_t, ty_d, it_n, it_b, it_i, it_s, it_l, it_t, it_d, fl_n, fl_b, fl_i, fl_s, nn_n, nn_b, nn_i, nn_s, nn_l, nn_t, ln_l, ln_t, ix0, ix1, ix2, ixl1, ixl2, ixl3, ii_n, ii_b, ii_i, ii_s, ii_l, ii_t, ii_d, ev_ii, ev_ss, ev_nn, ev_bb, ev_tt, ev_ll, ev_tn, ev_nt, ev_in, ev_ni, ev_it, ev_ti, ev_st, ev_ts, ev_si, ev_is, ea_nn, ea_nc, ea_cn, ea_cc, st_0_0, st_0_1, st_0_2, st_0_3, st_0_4, st_1_0, st_1_1, st_1_2, st_1_3, st_1_4, st_2_0, st_2_1, st_2_2, st_2_3, st_2_4, st_3_0, st_3_1, st_3_2, st_3_3, st_3_4, st_4_0, st_4_1, st_4_2, st_4_3, st_4_4, so_0, so_1, so_2, so_3, so_4, shp, PyData.canLay0, PyData.canLayAll0, PyData.depth, PyData.depthAll, Way.d, isNum] at q ⊢
        exact q
      · by_cases hw : (isI a && isI b) = true
        · have ia : isI a = true := by
            rw [Bool.and_eq_true] at hw
            exact hw.1
          have ib : isI b = true := by
            rw [Bool.and_eq_true] at hw
            exact hw.2
          cases a <;> simp [ii_n, ii_b, ii_i, ii_s, ii_l, ii_t, ii_d] at ia
          cases b <;> simp [ii_n, ii_b, ii_i, ii_s, ii_l, ii_t, ii_d] at ib
          rename_i i j
          have bb := hB i j rfl
          by_cases hj : j < 1
          · have hj' : ¬ 0 < j := by omega
            simp [dVar, dC, dOp, dTest, dChain, dAnd, dOr, dNot, dAndV, dOrV, dNotV, dIf, dNil, dCons, dTup, dLst, dCallL, dRaiseL, dErr, dThunk, dNeg, dNoPart, dPart, dSl, dCB, dIsi, dNext, dSeq, dBreak, dCont, dIfS, dRet, dRetN, dDrop, dSet, dList, dLst', dSetO, dApp, dSetIx, dAsg, dPar, gNm, gNl, gCn, gTp, dSeqOf, dRange1, dRange2, dEnum, dZip, dFor, dForL, dYes, retD, startD, outD, F1_at, F2_at, F3_at, ex2, ex3, sizeLine_eq, rAddD, rMulD, rCmpD, rEqD', rIsD, rInD', rIxD, rLenD, rI0, rDivD, rModD, rPowD, rSubD, ty_n, ty_b, ty_i, ty_s, ty_l, ty_t, ty_d, it_n, it_b, it_i, it_s, it_l, it_t, it_d, fl_n, fl_b, fl_i, fl_s, nn_n, nn_b, nn_i, nn_s, nn_l, nn_t, ln_l, ln_t, ix0, ix1, ix2, ixl1, ixl2, ixl3, ii_n, ii_b, ii_i, ii_s, ii_l, ii_t, ii_d, ev_ii, ev_ss, ev_nn, ev_bb, ev_tt, ev_ll, ev_tn, ev_nt, ev_in, ev_ni, ev_it, ev_ti, ev_st, ev_ts, ev_si, ev_is, ea_nn, ea_nc, ea_cn, ea_cc, st_0_0, st_0_1, st_0_2, st_0_3, st_0_4, st_1_0, st_1_1, st_1_2, st_1_3, st_1_4, st_2_0, st_2_1, st_2_2, st_2_3, st_2_4, st_3_0, st_3_1, st_3_2, st_3_3, st_3_4, st_4_0, st_4_1, st_4_2, st_4_3, st_4_4, so_0, so_1, so_2, so_3, so_4, shp, PyData.canLay0, PyData.canLayAll0, PyData.depth, PyData.depthAll, Way.d, isNum, hj, hj'] at q ⊢
            refine ⟨(.int i, .int j), rfl, hx, ?_⟩
            simp [outD, ii_i]
            exact q
          · have hj' : 0 < j := by omega
            have hj2 : 1 ≤ j := by omega
            by_cases hi : 0 < i
            · have e := low_eqv hi hj'
              simp [dVar, dC, dOp, dTest, dChain, dAnd, dOr, dNot, dAndV, dOrV, dNotV, dIf, dNil, dCons, dTup, dLst, dCallL, dRaiseL, dErr, dThunk, dNeg, dNoPart, dPart, dSl, dCB, dIsi, dNext, dSeq, dBreak, dCont, dIfS, dRet, dRetN, dDrop, dSet, dList, dLst', dSetO, dApp, dSetIx, dAsg, dPar, gNm, gNl, gCn, gTp, dSeqOf, dRange1, dRange2, dEnum, dZip, dFor, dForL, dYes, retD, startD, outD, F1_at, F2_at, F3_at, ex2, ex3, sizeLine_eq, rAddD, rMulD, rCmpD, rEqD', rIsD, rInD', rIxD, rLenD, rI0, rDivD, rModD, rPowD, rSubD, ty_n, ty_b, ty_i, ty_s, ty_l, ty_t, ty_d, it_n, it_b, it_i, it_s, it_l, it_t, it_d, fl_n, fl_b, fl_i, fl_s, nn_n, nn_b, nn_i, nn_s, nn_l, nn_t, ln_l, ln_t, ix0, ix1, ix2, ixl1, ixl2, ixl3, ii_n, ii_b, ii_i, ii_s, ii_l, ii_t, ii_d, ev_ii, ev_ss, ev_nn, ev_bb, ev_tt, ev_ll, ev_tn, ev_nt, ev_in, ev_ni, ev_it, ev_ti, ev_st, ev_ts, ev_si, ev_is, ea_nn, ea_nc, ea_cn, ea_cc, st_0_0, st_0_1, st_0_2, st_0_3, st_0_4, st_1_0, st_1_1, st_1_2, st_1_3, st_1_4, st_2_0, st_2_1, st_2_2, st_2_3, st_2_4, st_3_0, st_3_1, st_3_2, st_3_3, st_3_4, st_4_0, st_4_1, st_4_2, st_4_3, st_4_4, so_0, so_1, so_2, so_3, so_4, shp, PyData.canLay0, PyData.canLayAll0, PyData.depth, PyData.depthAll, Way.d, isNum, hj, hi, hj', hj2] at q ⊢
              refine ⟨(.int i, .int j), rfl, hx, ?_⟩
              simp [outD, ii_i]
              refine ⟨(i, j), rfl, ⟨hi, hj', bb⟩, ?_⟩
              refine ⟨by simp [low, shp, PyData.canLay0, PyData.canLayAll0, PyData.depth, PyData.depthAll], ?_⟩
              rw [e]
              exact q
            · simp [dVar, dC, dOp, dTest, dChain, dAnd, dOr, dNot, dAndV, dOrV, dNotV, dIf, dNil, dCons, dTup, dLst, dCallL, dRaiseL, dErr, dThunk, dNeg, dNoPart, dPart, dSl, dCB, dIsi, dNext, dSeq, dBreak, dCont, dIfS, dRet, dRetN, dDrop, dSet, dList, dLst', dSetO, dApp, dSetIx, dAsg, dPar, gNm, gNl, gCn, gTp, dSeqOf, dRange1, dRange2, dEnum, dZip, dFor, dForL, dYes, retD, startD, outD, F1_at, F2_at, F3_at, ex2, ex3, sizeLine_eq, rAddD, rMulD, rCmpD, rEqD', rIsD, rInD', rIxD, rLenD, rI0, rDivD, rModD, rPowD, rSubD, ty_n, ty_b, ty_i, ty_s, ty_l, ty_t, ty_d, it_n, it_b, it_i, it_s, it_l, it_t, it_d, fl_n, fl_b, fl_i, fl_s, nn_n, nn_b, nn_i, nn_s, nn_l, nn_t, ln_l, ln_t, ix0, ix1, ix2, ixl1, ixl2, ixl3, ii_n, ii_b, ii_i, ii_s, ii_l, ii_t, ii_d, ev_ii, ev_ss, ev_nn, ev_bb, ev_tt, ev_ll, ev_tn, ev_nt, ev_in, ev_ni, ev_it, ev_ti, ev_st, ev_ts, ev_si, ev_is, ea_nn, ea_nc, ea_cn, ea_cc, st_0_0, st_0_1, st_0_2, st_0_3, st_0_4, st_1_0, st_1_1, st_1_2, st_1_3, st_1_4, st_2_0, st_2_1, st_2_2, st_2_3, st_2_4, st_3_0, st_3_1, st_3_2, st_3_3, st_3_4, st_4_0, st_4_1, st_4_2, st_4_3, st_4_4, so_0, so_1, so_2, so_3, so_4, shp, PyData.canLay0, PyData.canLayAll0, PyData.depth, PyData.depthAll, Way.d, isNum, hj, hi, hj', hj2] at q ⊢
              refine ⟨(.int i, .int j), rfl, hx, ?_⟩
              simp [outD, ii_i]
              exact q
        · have e : isNum .ch (.tuple [a, b]) = false := by
            cases a <;> cases b <;> first | rfl | (exact absurd rfl hw)
          rw [e] at q
          simp [dVar, dC, dOp, dTest, dChain, dAnd, dOr, dNot, dAndV, dOrV, dNotV, dIf, dNil, dCons, dTup, dLst, dCallL, dRaiseL, dErr, dThunk, dNeg, dNoPart, dPart, dSl, dCB, dIsi, dNext, dSeq, dBreak, dCont, dIfS, dRet, dRetN, dDrop, dSet, dList, dLst', dSetO, dApp, dSetIx, dAsg, dPar, gNm, gNl, gCn, gTp, dSeqOf, dRange1, dRange2, dEnum, dZip, dFor, dForL, dYes, retD, startD, outD, F1_at, F2_at, F3_at, ex2, ex3, sizeLine_eq, rAddD, rMulD, rCmpD, rEqD', rIsD, rInD', rIxD, rLenD, rI0, rDivD, rModD, rPowD, rSubD, ty_n, ty_b, ty_i, ty_s, ty_l, ty_t, ty_d, it_n, it_b, it_i, it_s, it_l, it_t, it_d, fl_n, fl_b, fl_i, fl_s, nn_n, nn_b, nn_i, nn_s, nn_l, nn_t, ln_l, ln_t, ix0, ix1, ix2, ixl1, ixl2, ixl3, ii_n, ii_b, ii_i, ii_s, ii_l, ii_t, ii_d, ev_ii, ev_ss, ev_nn, ev_bb, ev_tt, ev_ll, ev_tn, ev_nt, ev_in, ev_ni, ev_it, ev_ti, ev_st, ev_ts, ev_si, ev_is, ea_nn, ea_nc, ea_cn, ea_cc, st_0_0, st_0_1, st_0_2, st_0_3, st_0_4, st_1_0, st_1_1, st_1_2, st_1_3, st_1_4, st_2_0, st_2_1, st_2_2, st_2_3, st_2_4, st_3_0, st_3_1, st_3_2, st_3_3, st_3_4, st_4_0, st_4_1, st_4_2, st_4_3, st_4_4, so_0, so_1, so_2, so_3, so_4, shp, PyData.canLay0, PyData.canLayAll0, PyData.depth, PyData.depthAll, Way.d] at q ⊢
          refine ⟨(a, b), rfl, hx, ?_⟩
          rw [Bool.not_eq_true] at hw
          simp [outD, hw]
          exact q
      · have h2 : ((r.length : Int) + 1 + 1 + 1 = 2) = False := by simp; omega
        simp [dVar, dC, dOp, dTest, dChain, dAnd, dOr, dNot, dAndV, dOrV, dNotV, dIf, dNil, dCons, dTup, dLst, dCallL, dRaiseL, dErr, dThunk, dNeg, dNoPart, dPart, dSl, dCB, dIsi, dNext, dSeq, dBreak, dCont, dIfS, dRet, dRetN, dDrop, dSet, dList, dLst', dSetO, dApp, dSetIx, dAsg, dPar, gNm, gNl, gCn, gTp, dSeqOf, dRange1, dRange2, dEnum, dZip, dFor, dForL, dYes, retD, startD, outD, F1_at, F2_at, F3_at, ex2, ex3, sizeLine_eq, rAddD, rMulD, rCmpD, rEqD', rIsD, rInD', rIxD, rLenD, rI0, rDivD, rModD, rPowD, rSubD, ty_n, ty_b, ty_i, ty_s, ty_l, ty_t, ty_d, it_n, it_b, it_i, it_s, it_l, it_t, it_d, fl_n, fl_b, fl_i, fl_s, nn_n, nn_b, nn_i, nn_s, nn_l, nn_t, ln_l, ln_t, ix0, ix1, ix2, ixl1, ixl2, ixl3, ii_n, ii_b, ii_i, ii_s, ii_l, ii_t, ii_d, ev_ii, ev_ss, ev_nn, ev_bb, ev_tt, ev_ll, ev_tn, ev_nt, ev_in, ev_ni, ev_it, ev_ti, ev_st, ev_ts, ev_si, ev_is, ea_nn, ea_nc, ea_cn, ea_cc, st_0_0, st_0_1, st_0_2, st_0_3, st_0_4, st_1_0, st_1_1, st_1_2, st_1_3, st_1_4, st_2_0, st_2_1, st_2_2, st_2_3, st_2_4, st_3_0, st_3_1, st_3_2, st_3_3, st_3_4, st_4_0, st_4_1, st_4_2, st_4_3, st_4_4, so_0, so_1, so_2, so_3, so_4, shp, PyData.canLay0, PyData.canLayAll0, PyData.depth, PyData.depthAll, Way.d, isNum, h2] at q ⊢
        exact q
    | dict k => simp [ty_d] at tx
    | _ => simp [dVar, dC, dOp, dTest, dChain, dAnd, dOr, dNot, dAndV, dOrV, dNotV, dIf, dNil, dCons, dTup, dLst, dCallL, dRaiseL, dErr, dThunk, dNeg, dNoPart, dPart, dSl, dCB, dIsi, dNext, dSeq, dBreak, dCont, dIfS, dRet, dRetN, dDrop, dSet, dList, dLst', dSetO, dApp, dSetIx, dAsg, dPar, gNm, gNl, gCn, gTp, dSeqOf, dRange1, dRange2, dEnum, dZip, dFor, dForL, dYes, retD, startD, outD, F1_at, F2_at, F3_at, ex2, ex3, sizeLine_eq, rAddD, rMulD, rCmpD, rEqD', rIsD, rInD', rIxD, rLenD, rI0, rDivD, rModD, rPowD, rSubD, ty_n, ty_b, ty_i, ty_s, ty_l, ty_t, ty_d, it_n, it_b, it_i, it_s, it_l, it_t, it_d, fl_n, fl_b, fl_i, fl_s, nn_n, nn_b, nn_i, nn_s, nn_l, nn_t, ln_l, ln_t, ix0, ix1, ix2, ixl1, ixl2, ixl3, ii_n, ii_b, ii_i, ii_s, ii_l, ii_t, ii_d, ev_ii, ev_ss, ev_nn, ev_bb, ev_tt, ev_ll, ev_tn, ev_nt, ev_in, ev_ni, ev_it, ev_ti, ev_st, ev_ts, ev_si, ev_is, ea_nn, ea_nc, ea_cn, ea_cc, st_0_0, st_0_1, st_0_2, st_0_3, st_0_4, st_1_0, st_1_1, st_1_2, st_1_3, st_1_4, st_2_0, st_2_1, st_2_2, st_2_3, st_2_4, st_3_0, st_3_1, st_3_2, st_3_3, st_3_4, st_4_0, st_4_1, st_4_2, st_4_3, st_4_4, so_0, so_1, so_2, so_3, so_4, shp, PyData.canLay0, PyData.canLayAll0, PyData.depth, PyData.depthAll, Way.d, isNum] at q ⊢ <;> simp_all
  · by_cases ix : isI x = true
    · cases x <;> simp [ii_n, ii_b, ii_i, ii_s, ii_l, ii_t, ii_d] at ix
      rename_i k
      cases W with
      | lf m =>
        by_cases h : 0 < k
        · simp [dVar, dC, dOp, dTest, dChain, dAnd, dOr, dNot, dAndV, dOrV, dNotV, dIf, dNil, dCons, dTup, dLst, dCallL, dRaiseL, dErr, dThunk, dNeg, dNoPart, dPart, dSl, dCB, dIsi, dNext, dSeq, dBreak, dCont, dIfS, dRet, dRetN, dDrop, dSet, dList, dLst', dSetO, dApp, dSetIx, dAsg, dPar, gNm, gNl, gCn, gTp, dSeqOf, dRange1, dRange2, dEnum, dZip, dFor, dForL, dYes, retD, startD, outD, F1_at, F2_at, F3_at, ex2, ex3, sizeLine_eq, rAddD, rMulD, rCmpD, rEqD', rIsD, rInD', rIxD, rLenD, rI0, rDivD, rModD, rPowD, rSubD, ty_n, ty_b, ty_i, ty_s, ty_l, ty_t, ty_d, it_n, it_b, it_i, it_s, it_l, it_t, it_d, fl_n, fl_b, fl_i, fl_s, nn_n, nn_b, nn_i, nn_s, nn_l, nn_t, ln_l, ln_t, ix0, ix1, ix2, ixl1, ixl2, ixl3, ii_n, ii_b, ii_i, ii_s, ii_l, ii_t, ii_d, ev_ii, ev_ss, ev_nn, ev_bb, ev_tt, ev_ll, ev_tn, ev_nt, ev_in, ev_ni, ev_it, ev_ti, ev_st, ev_ts, ev_si, ev_is, ea_nn, ea_nc, ea_cn, ea_cc, st_0_0, st_0_1, st_0_2, st_0_3, st_0_4, st_1_0, st_1_1, st_1_2, st_1_3, st_1_4, st_2_0, st_2_1, st_2_2, st_2_3, st_2_4, st_3_0, st_3_1, st_3_2, st_3_3, st_3_4, st_4_0, st_4_1, st_4_2, st_4_3, st_4_4, so_0, so_1, so_2, so_3, so_4, shp, PyData.canLay0, PyData.canLayAll0, PyData.depth, PyData.depthAll, Way.d, sp__law_is_whole, isNum, h] at q ⊢
          exact q
        · simp [dVar, dC, dOp, dTest, dChain, dAnd, dOr, dNot, dAndV, dOrV, dNotV, dIf, dNil, dCons, dTup, dLst, dCallL, dRaiseL, dErr, dThunk, dNeg, dNoPart, dPart, dSl, dCB, dIsi, dNext, dSeq, dBreak, dCont, dIfS, dRet, dRetN, dDrop, dSet, dList, dLst', dSetO, dApp, dSetIx, dAsg, dPar, gNm, gNl, gCn, gTp, dSeqOf, dRange1, dRange2, dEnum, dZip, dFor, dForL, dYes, retD, startD, outD, F1_at, F2_at, F3_at, ex2, ex3, sizeLine_eq, rAddD, rMulD, rCmpD, rEqD', rIsD, rInD', rIxD, rLenD, rI0, rDivD, rModD, rPowD, rSubD, ty_n, ty_b, ty_i, ty_s, ty_l, ty_t, ty_d, it_n, it_b, it_i, it_s, it_l, it_t, it_d, fl_n, fl_b, fl_i, fl_s, nn_n, nn_b, nn_i, nn_s, nn_l, nn_t, ln_l, ln_t, ix0, ix1, ix2, ixl1, ixl2, ixl3, ii_n, ii_b, ii_i, ii_s, ii_l, ii_t, ii_d, ev_ii, ev_ss, ev_nn, ev_bb, ev_tt, ev_ll, ev_tn, ev_nt, ev_in, ev_ni, ev_it, ev_ti, ev_st, ev_ts, ev_si, ev_is, ea_nn, ea_nc, ea_cn, ea_cc, st_0_0, st_0_1, st_0_2, st_0_3, st_0_4, st_1_0, st_1_1, st_1_2, st_1_3, st_1_4, st_2_0, st_2_1, st_2_2, st_2_3, st_2_4, st_3_0, st_3_1, st_3_2, st_3_3, st_3_4, st_4_0, st_4_1, st_4_2, st_4_3, st_4_4, so_0, so_1, so_2, so_3, so_4, shp, PyData.canLay0, PyData.canLayAll0, PyData.depth, PyData.depthAll, Way.d, sp__law_is_whole, isNum, h] at q ⊢
          exact q
      | ch => exact absurd rfl hc
      | _ => simp [dVar, dC, dOp, dTest, dChain, dAnd, dOr, dNot, dAndV, dOrV, dNotV, dIf, dNil, dCons, dTup, dLst, dCallL, dRaiseL, dErr, dThunk, dNeg, dNoPart, dPart, dSl, dCB, dIsi, dNext, dSeq, dBreak, dCont, dIfS, dRet, dRetN, dDrop, dSet, dList, dLst', dSetO, dApp, dSetIx, dAsg, dPar, gNm, gNl, gCn, gTp, dSeqOf, dRange1, dRange2, dEnum, dZip, dFor, dForL, dYes, retD, startD, outD, F1_at, F2_at, F3_at, ex2, ex3, sizeLine_eq, rAddD, rMulD, rCmpD, rEqD', rIsD, rInD', rIxD, rLenD, rI0, rDivD, rModD, rPowD, rSubD, ty_n, ty_b, ty_i, ty_s, ty_l, ty_t, ty_d, it_n, it_b, it_i, it_s, it_l, it_t, it_d, fl_n, fl_b, fl_i, fl_s, nn_n, nn_b, nn_i, nn_s, nn_l, nn_t, ln_l, ln_t, ix0, ix1, ix2, ixl1, ixl2, ixl3, ii_n, ii_b, ii_i, ii_s, ii_l, ii_t, ii_d, ev_ii, ev_ss, ev_nn, ev_bb, ev_tt, ev_ll, ev_tn, ev_nt, ev_in, ev_ni, ev_it, ev_ti, ev_st, ev_ts, ev_si, ev_is, ea_nn, ea_nc, ea_cn, ea_cc, st_0_0, st_0_1, st_0_2, st_0_3, st_0_4, st_1_0, st_1_1, st_1_2, st_1_3, st_1_4, st_2_0, st_2_1, st_2_2, st_2_3, st_2_4, st_3_0, st_3_1, st_3_2, st_3_3, st_3_4, st_4_0, st_4_1, st_4_2, st_4_3, st_4_4, so_0, so_1, so_2, so_3, so_4, shp, PyData.canLay0, PyData.canLayAll0, PyData.depth, PyData.depthAll, Way.d, sp__law_is_whole, isNum] at q ⊢ <;> exact q
    · rw [isNum_no (by simpa using ix) hc] at q
      cases W with
      | ch => exact absurd rfl hc
      | _ =>
        simp [dVar, dC, dOp, dTest, dChain, dAnd, dOr, dNot, dAndV, dOrV, dNotV, dIf, dNil, dCons, dTup, dLst, dCallL, dRaiseL, dErr, dThunk, dNeg, dNoPart, dPart, dSl, dCB, dIsi, dNext, dSeq, dBreak, dCont, dIfS, dRet, dRetN, dDrop, dSet, dList, dLst', dSetO, dApp, dSetIx, dAsg, dPar, gNm, gNl, gCn, gTp, dSeqOf, dRange1, dRange2, dEnum, dZip, dFor, dForL, dYes, retD, startD, outD, F1_at, F2_at, F3_at, ex2, ex3, sizeLine_eq, rAddD, rMulD, rCmpD, rEqD', rIsD, rInD', rIxD, rLenD, rI0, rDivD, rModD, rPowD, rSubD, ty_n, ty_b, ty_i, ty_s, ty_l, ty_t, ty_d, it_n, it_b, it_i, it_s, it_l, it_t, it_d, fl_n, fl_b, fl_i, fl_s, nn_n, nn_b, nn_i, nn_s, nn_l, nn_t, ln_l, ln_t, ix0, ix1, ix2, ixl1, ixl2, ixl3, ii_n, ii_b, ii_i, ii_s, ii_l, ii_t, ii_d, ev_ii, ev_ss, ev_nn, ev_bb, ev_tt, ev_ll, ev_tn, ev_nt, ev_in, ev_ni, ev_it, ev_ti, ev_st, ev_ts, ev_si, ev_is, ea_nn, ea_nc, ea_cn, ea_cc, st_0_0, st_0_1, st_0_2, st_0_3, st_0_4, st_1_0, st_1_1, st_1_2, st_1_3, st_1_4, st_2_0, st_2_1, st_2_2, st_2_3, st_2_4, st_3_0, st_3_1, st_3_2, st_3_3, st_3_4, st_4_0, st_4_1, st_4_2, st_4_3, st_4_4, so_0, so_1, so_2, so_3, so_4, shp, PyData.canLay0, PyData.canLayAll0, PyData.depth, PyData.depthAll, Way.d, sp__law_is_whole, ix, tx] at q ⊢
        exact q
end LK
end
section
set_option Elab.async false
set_option linter.all false
set_option maxRecDepth 100000
set_option maxHeartbeats 4000000
set_option autoImplicit false
namespace LK
open PySem PySem.Spec PyProof.Rows L2 PL
/-- what is compared with itself -/
def likeR (R : D → Prop) (x : D) : Prop := (x.canLay0 = true ∧ flatD x = true) ∨ ∃ xs : List D, (x = .list xs ∨ x = .tuple xs) ∧ xs.length ≤ 1000 ∧ ∀ y ∈ xs, R y
def likeN : Nat → D → Prop
  | 0 => fun _ => False
  | n + 1 => likeR (likeN n)
def spLike (R : D → Prop) : SpD := GS (fun x : D => [x, x]) R (fun _ => .ok (.bool true))
theorem moLike {R : D → Prop} : SpMono (spLike R) := GS.mo
theorem sc__law_like : FnScope ["told", "due", "is_kind", "one", "far"] ["told", "due"] (defScope s__law_like) := ⟨rfl, rfl, rfl, by decide +kernel, rfl, by decide +kernel, by decide +kernel⟩
theorem like_step {w : World} {K : PySem.W.Frag} {mg : Str → Option Value} {base : Heap} {ca : Str → Addr} (T : Txt K mg ca) {R : D → Prop} {k : Nat} (h : DOk prog w K mg base k "_law_like" ["told", "due"] (spLike R)) : DOk prog w K mg base (k + 1) "_law_like" ["told", "due"] (spLike (likeR R)) := by
  refine dok T.a__law_like sc__law_like (GS.len fun _ => rfl) fun f cdv A outer s S F H E hr => ⟨_, (pxs_cons (pxs_if (PXW.pt (pxw_or (pxt_val (px_isi (by decide) rfl T.b_isinstance rfl T.b_tuple rfl (px_var 1 (pv 1)))) (pxw_or1 (pxt_val (px_isi (by decide) rfl T.b_isinstance rfl T.b_list rfl (px_var 1 (pv 1))))))) (pxs_cons (pxs_set 2 sc__law_like.nd rfl (.inl rfl) (px_if (pxt_val (px_isi (by decide) rfl T.b_isinstance rfl T.b_tuple rfl (px_var 1 (pv 1)))) (px_isi (by decide) rfl T.b_isinstance rfl T.b_tuple rfl (px_var 0 (pv 0))) (px_isi (by decide) rfl T.b_isinstance rfl T.b_list rfl (px_var 0 (pv 0))))) (pxs_cons (pxs_if (PXW.pt (pxw_or (pxt_not (pxt_val (px_var 2 (pv 2)))) (pxw_or1 (pxt_cmp (od_ne (Room.eqU hr)) (px_callB cd_len rfl T.b_len rfl (pxa_cons (px_var 0 (pv 0)) pxa_nil)) (px_callB cd_len rfl T.b_len rfl (pxa_cons (px_var 1 (pv 1)) pxa_nil)) (nomark _))))) (pxs_cons (pxs_ret (px_c pe_bl fun _ _ => .bl _)) pxs_nil) pxs_nil) (pxs_cons (pxs_ret (px_cmp (od_eq (Room.eqU hr)) (px_ofN (xn_lc (own := [("one", 3), ("far", 4)]) rfl sc__law_like.nd (PXI.toC (pxi_zip rfl T.b_zip (pxa_cons (px_var 0 (pv 0)) (pxa_cons (px_var 1 (pv 1)) pxa_nil)))) (blkOk_by rfl) (fun s H C cl fp => (pxg_tup (n := 2) rfl (pxgs_cons (pxg_name 3 sc__law_like.nd rfl (.inl rfl)) (pxgs_cons (pxg_name 4 sc__law_like.nd rfl (.inl rfl)) pxgs_nil)))) (fun s H C cl fp => (pxts_one (pxt_not (pxt_val (px_callL lets_no h moLike hr (pxa_cons (px_var 3 (pv 3)) (pxa_cons (px_var 4 (pv 4)) pxa_nil))))))) (fun s H C cl fp => (px_c pe_int fun _ _ => .int _)) (by decide))) (px_lst pxa_nil) (nomark _))) pxs_nil))) pxs_nil) (pxs_cons (pxs_if (PXW.pt (pxw_or (pxt_cmp od_is (px_var 1 (pv 1)) (px_c pe_non fun _ _ => .non) (nomark _)) (pxw_or (pxt_cmp od_is (px_var 1 (pv 1)) (px_c pe_bl fun _ _ => .bl _) (nomark _)) (pxw_or1 (pxt_cmp od_is (px_var 1 (pv 1)) (px_c pe_bl fun _ _ => .bl _) (nomark _)))))) (pxs_cons (pxs_ret (px_or (px_and (px_cmp od_is (px_var 1 (pv 1)) (px_c pe_non fun _ _ => .non) (nomark _)) (px_one (px_cmp od_is (px_var 0 (pv 0)) (px_c pe_non fun _ _ => .non) (nomark _)))) (px_or (px_and (px_cmp od_is (px_var 1 (pv 1)) (px_c pe_bl fun _ _ => .bl _) (nomark _)) (px_one (px_cmp od_is (px_var 0 (pv 0)) (px_c pe_bl fun _ _ => .bl _) (nomark _)))) (px_one (px_and (px_cmp od_is (px_var 1 (pv 1)) (px_c pe_bl fun _ _ => .bl _) (nomark _)) (px_one (px_cmp od_is (px_var 0 (pv 0)) (px_c pe_bl fun _ _ => .bl _) (nomark _)))))))) pxs_nil) pxs_nil) (pxs_cons (pxs_if (pxt_val (px_isi (by decide) rfl T.b_isinstance rfl T.b_str rfl (px_var 1 (pv 1)))) (pxs_cons (pxs_ret (px_and (px_isi (by decide) rfl T.b_isinstance rfl T.b_str rfl (px_var 0 (pv 0))) (px_one (px_cmp (od_eq (Room.eqU hr)) (px_var 0 (pv 0)) (px_var 1 (pv 1)) (nomark _))))) pxs_nil) pxs_nil) (pxs_cons (pxs_ret (px_and (px_isi (by decide) rfl T.b_isinstance rfl T.b_int rfl (px_var 0 (pv 0))) (px_and (px_not (px_isi (by decide) rfl T.b_isinstance rfl T.b_bool rfl (px_var 0 (pv 0)))) (px_one (px_cmp (od_eq (Room.eqU hr)) (px_var 0 (pv 0)) (px_var 1 (pv 1)) (nomark _)))))) pxs_nil)))), ?_⟩
  rintro ds n Q ⟨x, rfl, hx, q⟩
  rcases hx with ⟨h1, h2⟩ | ⟨xs, hxs, hl, hR⟩
  · cases x with
    | none => simp [dVar, dC, dOp, dTest, dChain, dAnd, dOr, dNot, dAndV, dOrV, dNotV, dIf, dNil, dCons, dTup, dLst, dCallL, dRaiseL, dErr, dThunk, dNeg, dNoPart, dPart, dSl, dCB, dIsi, dNext, dSeq, dBreak, dCont, dIfS, dRet, dRetN, dDrop, dSet, dList, dLst', dSetO, dApp, dSetIx, dAsg, dPar, gNm, gNl, gCn, gTp, dSeqOf, dRange1, dRange2, dEnum, dZip, dFor, dForL, dYes, retD, startD, outD, F1_at, F2_at, F3_at, ex2, ex3, sizeLine_eq, rAddD, rMulD, rCmpD, rEqD', rIsD, rInD', rIxD, rLenD, rI0, rDivD, rModD, rPowD, rSubD, ty_n, ty_b, ty_i, ty_s, ty_l, ty_t, ty_d, it_n, it_b, it_i, it_s, it_l, it_t, it_d, fl_n, fl_b, fl_i, fl_s, nn_n, nn_b, nn_i, nn_s, nn_l, nn_t, ln_l, ln_t, ix0, ix1, ix2, ixl1, ixl2, ixl3, ii_n, ii_b, ii_i, ii_s, ii_l, ii_t, ii_d, ev_ii, ev_ss, ev_nn, ev_bb, ev_tt, ev_ll, ev_tn, ev_nt, ev_in, ev_ni, ev_it, ev_ti, ev_st, ev_ts, ev_si, ev_is, ea_nn, ea_nc, ea_cn, ea_cc, st_0_0, st_0_1, st_0_2, st_0_3, st_0_4, st_1_0, st_1_1, st_1_2, st_1_3, st_1_4, st_2_0, st_2_1, st_2_2, st_2_3, st_2_4, st_3_0, st_3_1, st_3_2, st_3_3, st_3_4, st_4_0, st_4_1, st_4_2, st_4_3, st_4_4, so_0, so_1, so_2, so_3, so_4, shp, PyData.canLay0, PyData.canLayAll0, PyData.depth, PyData.depthAll] at q ⊢; exact q
    | bool b => cases b <;> simp [dVar, dC, dOp, dTest, dChain, dAnd, dOr, dNot, dAndV, dOrV, dNotV, dIf, dNil, dCons, dTup, dLst, dCallL, dRaiseL, dErr, dThunk, dNeg, dNoPart, dPart, dSl, dCB, dIsi, dNext, dSeq, dBreak, dCont, dIfS, dRet, dRetN, dDrop, dSet, dList, dLst', dSetO, dApp, dSetIx, dAsg, dPar, gNm, gNl, gCn, gTp, dSeqOf, dRange1, dRange2, dEnum, dZip, dFor, dForL, dYes, retD, startD, outD, F1_at, F2_at, F3_at, ex2, ex3, sizeLine_eq, rAddD, rMulD, rCmpD, rEqD', rIsD, rInD', rIxD, rLenD, rI0, rDivD, rModD, rPowD, rSubD, ty_n, ty_b, ty_i, ty_s, ty_l, ty_t, ty_d, it_n, it_b, it_i, it_s, it_l, it_t, it_d, fl_n, fl_b, fl_i, fl_s, nn_n, nn_b, nn_i, nn_s, nn_l, nn_t, ln_l, ln_t, ix0, ix1, ix2, ixl1, ixl2, ixl3, ii_n, ii_b, ii_i, ii_s, ii_l, ii_t, ii_d, ev_ii, ev_ss, ev_nn, ev_bb, ev_tt, ev_ll, ev_tn, ev_nt, ev_in, ev_ni, ev_it, ev_ti, ev_st, ev_ts, ev_si, ev_is, ea_nn, ea_nc, ea_cn, ea_cc, st_0_0, st_0_1, st_0_2, st_0_3, st_0_4, st_1_0, st_1_1, st_1_2, st_1_3, st_1_4, st_2_0, st_2_1, st_2_2, st_2_3, st_2_4, st_3_0, st_3_1, st_3_2, st_3_3, st_3_4, st_4_0, st_4_1, st_4_2, st_4_3, st_4_4, so_0, so_1, so_2, so_3, so_4, shp, PyData.canLay0, PyData.canLayAll0, PyData.depth, PyData.depthAll, isBoolD] at q ⊢ <;> exact q
    | int i => simp [dVar, dC, dOp, dTest, dChain, dAnd, dOr, dNot, dAndV, dOrV, dNotV, dIf, dNil, dCons, dTup, dLst, dCallL, dRaiseL, dErr, dThunk, dNeg, dNoPart, dPart, dSl, dCB, dIsi, dNext, dSeq, dBreak, dCont, dIfS, dRet, dRetN, dDrop, dSet, dList, dLst', dSetO, dApp, dSetIx, dAsg, dPar, gNm, gNl, gCn, gTp, dSeqOf, dRange1, dRange2, dEnum, dZip, dFor, dForL, dYes, retD, startD, outD, F1_at, F2_at, F3_at, ex2, ex3, sizeLine_eq, rAddD, rMulD, rCmpD, rEqD', rIsD, rInD', rIxD, rLenD, rI0, rDivD, rModD, rPowD, rSubD, ty_n, ty_b, ty_i, ty_s, ty_l, ty_t, ty_d, it_n, it_b, it_i, it_s, it_l, it_t, it_d, fl_n, fl_b, fl_i, fl_s, nn_n, nn_b, nn_i, nn_s, nn_l, nn_t, ln_l, ln_t, ix0, ix1, ix2, ixl1, ixl2, ixl3, ii_n, ii_b, ii_i, ii_s, ii_l, ii_t, ii_d, ev_ii, ev_ss, ev_nn, ev_bb, ev_tt, ev_ll, ev_tn, ev_nt, ev_in, ev_ni, ev_it, ev_ti, ev_st, ev_ts, ev_si, ev_is, ea_nn, ea_nc, ea_cn, ea_cc, st_0_0, st_0_1, st_0_2, st_0_3, st_0_4, st_1_0, st_1_1, st_1_2, st_1_3, st_1_4, st_2_0, st_2_1, st_2_2, st_2_3, st_2_4, st_3_0, st_3_1, st_3_2, st_3_3, st_3_4, st_4_0, st_4_1, st_4_2, st_4_3, st_4_4, so_0, so_1, so_2, so_3, so_4, shp, PyData.canLay0, PyData.canLayAll0, PyData.depth, PyData.depthAll, isBoolD] at q ⊢; exact q
    | str s =>
      simp [PyData.canLay0] at h1
      simp [dVar, dC, dOp, dTest, dChain, dAnd, dOr, dNot, dAndV, dOrV, dNotV, dIf, dNil, dCons, dTup, dLst, dCallL, dRaiseL, dErr, dThunk, dNeg, dNoPart, dPart, dSl, dCB, dIsi, dNext, dSeq, dBreak, dCont, dIfS, dRet, dRetN, dDrop, dSet, dList, dLst', dSetO, dApp, dSetIx, dAsg, dPar, gNm, gNl, gCn, gTp, dSeqOf, dRange1, dRange2, dEnum, dZip, dFor, dForL, dYes, retD, startD, outD, F1_at, F2_at, F3_at, ex2, ex3, sizeLine_eq, rAddD, rMulD, rCmpD, rEqD', rIsD, rInD', rIxD, rLenD, rI0, rDivD, rModD, rPowD, rSubD, ty_n, ty_b, ty_i, ty_s, ty_l, ty_t, ty_d, it_n, it_b, it_i, it_s, it_l, it_t, it_d, fl_n, fl_b, fl_i, fl_s, nn_n, nn_b, nn_i, nn_s, nn_l, nn_t, ln_l, ln_t, ix0, ix1, ix2, ixl1, ixl2, ixl3, ii_n, ii_b, ii_i, ii_s, ii_l, ii_t, ii_d, ev_ii, ev_ss, ev_nn, ev_bb, ev_tt, ev_ll, ev_tn, ev_nt, ev_in, ev_ni, ev_it, ev_ti, ev_st, ev_ts, ev_si, ev_is, ea_nn, ea_nc, ea_cn, ea_cc, st_0_0, st_0_1, st_0_2, st_0_3, st_0_4, st_1_0, st_1_1, st_1_2, st_1_3, st_1_4, st_2_0, st_2_1, st_2_2, st_2_3, st_2_4, st_3_0, st_3_1, st_3_2, st_3_3, st_3_4, st_4_0, st_4_1, st_4_2, st_4_3, st_4_4, so_0, so_1, so_2, so_3, so_4, shp, PyData.canLay0, PyData.canLayAll0, PyData.depth, PyData.depthAll, isBoolD, h1] at q ⊢
      exact q
    | _ => simp [flatD] at h2
  · have pairs : ∀ z ∈ pairD xs xs, ∃ y, z = PyData.tuple [y, y] ∧ R y := fun z hz => by
      obtain ⟨i, hi, hx⟩ := List.mem_iff_getElem.mp hz
      have hg := List.getElem?_eq_getElem hi
      rw [hx] at hg
      obtain ⟨d, e, h1, h2, h3⟩ := pairD_get hg
      rw [h1] at h2
      cases h2
      exact ⟨d, h3, hR d (List.mem_of_getElem? h1)⟩
    rcases hxs with rfl | rfl
    · simp [dVar, dC, dOp, dTest, dChain, dAnd, dOr, dNot, dAndV, dOrV, dNotV, dIf, dNil, dCons, dTup, dLst, dCallL, dRaiseL, dErr, dThunk, dNeg, dNoPart, dPart, dSl, dCB, dIsi, dNext, dSeq, dBreak, dCont, dIfS, dRet, dRetN, dDrop, dSet, dList, dLst', dSetO, dApp, dSetIx, dAsg, dPar, gNm, gNl, gCn, gTp, dSeqOf, dRange1, dRange2, dEnum, dZip, dFor, dForL, dYes, retD, startD, outD, F1_at, F2_at, F3_at, ex2, ex3, sizeLine_eq, rAddD, rMulD, rCmpD, rEqD', rIsD, rInD', rIxD, rLenD, rI0, rDivD, rModD, rPowD, rSubD, ty_n, ty_b, ty_i, ty_s, ty_l, ty_t, ty_d, it_n, it_b, it_i, it_s, it_l, it_t, it_d, fl_n, fl_b, fl_i, fl_s, nn_n, nn_b, nn_i, nn_s, nn_l, nn_t, ln_l, ln_t, ix0, ix1, ix2, ixl1, ixl2, ixl3, ii_n, ii_b, ii_i, ii_s, ii_l, ii_t, ii_d, ev_ii, ev_ss, ev_nn, ev_bb, ev_tt, ev_ll, ev_tn, ev_nt, ev_in, ev_ni, ev_it, ev_ti, ev_st, ev_ts, ev_si, ev_is, ea_nn, ea_nc, ea_cn, ea_cc, st_0_0, st_0_1, st_0_2, st_0_3, st_0_4, st_1_0, st_1_1, st_1_2, st_1_3, st_1_4, st_2_0, st_2_1, st_2_2, st_2_3, st_2_4, st_3_0, st_3_1, st_3_2, st_3_3, st_3_4, st_4_0, st_4_1, st_4_2, st_4_3, st_4_4, so_0, so_1, so_2, so_3, so_4, shp, PyData.canLay0, PyData.canLayAll0, PyData.depth, PyData.depthAll] at q ⊢
      refine ⟨xs, xs, .inl rfl, lc_inv (fun zs w acc => w = n ∧ acc = [] ∧ ∀ z ∈ zs, ∃ y, z = PyData.tuple [y, y] ∧ R y) ?_ ?_ _ n [] ⟨rfl, rfl, pairs⟩⟩
      · rintro z zs w acc K ⟨rfl, rfl, hz⟩ k
        obtain ⟨y, rfl, hy⟩ := hz z List.mem_cons_self
        refine ⟨by simp [sizeLine_eq], ?_⟩
        simp [dVar, dC, dOp, dTest, dChain, dAnd, dOr, dNot, dAndV, dOrV, dNotV, dIf, dNil, dCons, dTup, dLst, dCallL, dRaiseL, dErr, dThunk, dNeg, dNoPart, dPart, dSl, dCB, dIsi, dNext, dSeq, dBreak, dCont, dIfS, dRet, dRetN, dDrop, dSet, dList, dLst', dSetO, dApp, dSetIx, dAsg, dPar, gNm, dSeqOf, dRange1, dRange2, dEnum, dZip, dFor, dForL, dYes, retD, startD, outD, F1_at, F2_at, F3_at, ex2, ex3, sizeLine_eq, gTp2, wipeD]
        exact ⟨y, rfl, hy, .inr ⟨rfl, k _ _ ⟨rfl, rfl, fun z h => hz z (List.mem_cons_of_mem _ h)⟩⟩⟩
      · rintro w acc ⟨rfl, rfl, _⟩
        simp [shp, PyData.canLay0, PyData.canLayAll0, PyData.depth, PyData.depthAll, ea_nn]
        exact q
    · simp [dVar, dC, dOp, dTest, dChain, dAnd, dOr, dNot, dAndV, dOrV, dNotV, dIf, dNil, dCons, dTup, dLst, dCallL, dRaiseL, dErr, dThunk, dNeg, dNoPart, dPart, dSl, dCB, dIsi, dNext, dSeq, dBreak, dCont, dIfS, dRet, dRetN, dDrop, dSet, dList, dLst', dSetO, dApp, dSetIx, dAsg, dPar, gNm, gNl, gCn, gTp, dSeqOf, dRange1, dRange2, dEnum, dZip, dFor, dForL, dYes, retD, startD, outD, F1_at, F2_at, F3_at, ex2, ex3, sizeLine_eq, rAddD, rMulD, rCmpD, rEqD', rIsD, rInD', rIxD, rLenD, rI0, rDivD, rModD, rPowD, rSubD, ty_n, ty_b, ty_i, ty_s, ty_l, ty_t, ty_d, it_n, it_b, it_i, it_s, it_l, it_t, it_d, fl_n, fl_b, fl_i, fl_s, nn_n, nn_b, nn_i, nn_s, nn_l, nn_t, ln_l, ln_t, ix0, ix1, ix2, ixl1, ixl2, ixl3, ii_n, ii_b, ii_i, ii_s, ii_l, ii_t, ii_d, ev_ii, ev_ss, ev_nn, ev_bb, ev_tt, ev_ll, ev_tn, ev_nt, ev_in, ev_ni, ev_it, ev_ti, ev_st, ev_ts, ev_si, ev_is, ea_nn, ea_nc, ea_cn, ea_cc, st_0_0, st_0_1, st_0_2, st_0_3, st_0_4, st_1_0, st_1_1, st_1_2, st_1_3, st_1_4, st_2_0, st_2_1, st_2_2, st_2_3, st_2_4, st_3_0, st_3_1, st_3_2, st_3_3, st_3_4, st_4_0, st_4_1, st_4_2, st_4_3, st_4_4, so_0, so_1, so_2, so_3, so_4, shp, PyData.canLay0, PyData.canLayAll0, PyData.depth, PyData.depthAll] at q ⊢
      refine ⟨xs, xs, .inr rfl, lc_inv (fun zs w acc => w = n ∧ acc = [] ∧ ∀ z ∈ zs, ∃ y, z = PyData.tuple [y, y] ∧ R y) ?_ ?_ _ n [] ⟨rfl, rfl, pairs⟩⟩
      · rintro z zs w acc K ⟨rfl, rfl, hz⟩ k
        obtain ⟨y, rfl, hy⟩ := hz z List.mem_cons_self
        refine ⟨by simp [sizeLine_eq], ?_⟩
        simp [dVar, dC, dOp, dTest, dChain, dAnd, dOr, dNot, dAndV, dOrV, dNotV, dIf, dNil, dCons, dTup, dLst, dCallL, dRaiseL, dErr, dThunk, dNeg, dNoPart, dPart, dSl, dCB, dIsi, dNext, dSeq, dBreak, dCont, dIfS, dRet, dRetN, dDrop, dSet, dList, dLst', dSetO, dApp, dSetIx, dAsg, dPar, gNm, dSeqOf, dRange1, dRange2, dEnum, dZip, dFor, dForL, dYes, retD, startD, outD, F1_at, F2_at, F3_at, ex2, ex3, sizeLine_eq, gTp2, wipeD]
        exact ⟨y, rfl, hy, .inr ⟨rfl, k _ _ ⟨rfl, rfl, fun z h => hz z (List.mem_cons_of_mem _ h)⟩⟩⟩
      · rintro w acc ⟨rfl, rfl, _⟩
        simp [shp, PyData.canLay0, PyData.canLayAll0, PyData.depth, PyData.depthAll, ea_nn]
        exact q
end LK
end
section
set_option Elab.async false
set_option linter.all false
set_option maxRecDepth 100000
set_option maxHeartbeats 4000000
set_option autoImplicit false
namespace LK
open PySem PySem.Spec PyProof.Rows L2 PL
theorem sc__law_refused : FnScope ["call", "found", "error"] ["call"] (defScope s__law_refused) := ⟨rfl, rfl, rfl, by decide +kernel, rfl, by decide +kernel, by decide +kernel⟩
def spRefused (ca : Str → Addr) : Tau → Nat → (Nat → D → Prop) → Prop := fun τ n Q => τ n Q fun C fx w => (C = ca "BadWay" ∧ ∃ x, fx = some (PySem.Str.ofString "way", x) ∧ Q w (.tuple [.str "way", x])) ∨ (C = ca "BadNumber" ∧ ∃ x, fx = some (PySem.Str.ofString "number", x) ∧ Q w (.tuple [.str "number", x]))
theorem ok__law_refused {X : Cx} {S : Msh} {k : Nat} {ca : Str → Addr} (hP : X.prog = prog) (T : Txt X.K X.mg ca) (x1 : PySem.W.exmOne X.K (.ref (ca "BadWay")) (.ref (ca "BadWay")) = some true) (x2 : PySem.W.exmOne X.K (.ref (ca "BadNumber")) (.ref (ca "BadWay")) = some false) (x3 : PySem.W.exmOne X.K (.ref (ca "BadNumber")) (.ref (ca "BadNumber")) = some true) :
    GivesD X S k ["call", "found", "error"] "_law_refused" s__law_refused "call" (spRefused ca) := by
  intro g cdg f s F H τ mτ hr act
  have b_BadWay : BadTxt X.prog X.K X.mg "BadWay" "way" "way" (ca "BadWay") := by
    rw [hP]
    exact T.b_BadWay
  have b_BadNumber : BadTxt X.prog X.K X.mg "BadNumber" "number" "number" (ca "BadNumber") := by
    rw [hP]
    exact T.b_BadNumber
  refine ⟨_, (pxs_cons (pxs_set 1 sc__law_refused.nd rfl (.inl rfl) (px_c pe_non fun _ _ => .non))
    (pxs_cons (pxs_try (tb := fun Wd => dSeq (dSet 1 (dThunk f τ Wd)) dNext) rfl rfl sc__law_refused.nd lets_no (fun G Wd pn xe rb lt => (pxs_cons (pxs_set 1 sc__law_refused.nd rfl (.inl rfl) (act G pn xe Wd _ _ rb lt)) pxs_nil)) (fun Wd Wd2 i D e q => ⟨q.1, mτ _ _ _ _ _ (fun _ _ q => q) (fun C fx w q => i C fx _ q) q.2⟩) (fun Wd D D2 e l q => ⟨q.1, mτ _ _ _ _ _ (fun _ _ q => l.nx _ q) (fun _ _ _ q => q) q.2⟩) (.as 2 ⟨rfl, by decide, .inl T.b_BadWay.gC⟩ rfl rfl (fun a oe cls d pn hz hf => (pxs_cons (pxs_set 1 sc__law_refused.nd rfl (.inl rfl) (px_tup (pxa_cons (px_c pe_str fun _ _ => .str _) (pxa_cons (px_err b_BadWay hz hf (px_var 2 (pv 2))) pxa_nil)))) pxs_nil)) (.as 2 ⟨rfl, by decide, .inl T.b_BadNumber.gC⟩ rfl rfl (fun a oe cls d pn hz hf => (pxs_cons (pxs_set 1 sc__law_refused.nd rfl (.inl rfl) (px_tup (pxa_cons (px_c pe_str fun _ _ => .str _) (pxa_cons (px_err b_BadNumber hz hf (px_var 2 (pv 2))) pxa_nil)))) pxs_nil)) .nil)))
    (pxs_cons (pxs_ret (px_var 1 (pv 1))) pxs_nil))), ?_⟩
  intro n Q h
  refine ⟨rfl, mτ _ _ _ _ _ (fun w d q => q) (fun C fx w q => ?_) h⟩
  rcases q with ⟨rfl, x, rfl, q⟩ | ⟨rfl, x, rfl, q⟩
  · refine ⟨true, x1, fun _ a d hd => ?_, fun h => by cases h⟩
    obtain ⟨dx, rfl⟩ := hd
    exact ⟨dx, x, rfl, rfl, rfl, sz_small (by show 2 ≤ 16777216; decide), q⟩
  · refine ⟨false, x2, (fun h => by cases h), fun _ => ⟨true, x3, fun _ a d hd => ?_, fun h => by cases h⟩⟩
    obtain ⟨dx, rfl⟩ := hd
    exact ⟨dx, x, rfl, rfl, rfl, sz_small (by show 2 ≤ 16777216; decide), q⟩
end LK
end
section
set_option Elab.async false
set_option linter.all false
set_option maxRecDepth 100000
set_option maxHeartbeats 4000000
set_option autoImplicit false
/-! P19: the law itself: its first statement, its lambdas. -/
namespace PL
open PySem PySem.Spec PyProof.Rows L2
theorem mtb_call {sp : SpD} {t : TAD} (ms : SpMono sp) (mt : MonA t) : ∀ (ed ed' : ED) (e : Ev) (Q Q' : Nat → D → Prop), (∀ C fx w, ed C fx w → ed' C fx w) → (∀ w d, Q w d → Q' w d) → dCallL sp (fun C fx e => ed C fx e.w) t e Q → dCallL sp (fun C fx e => ed' C fx e.w) t e Q' :=
  fun ed ed' e Q Q' i j q => mt _ _ _ (fun w ds q => ms _ _ _ _ _ _ j (fun C f w q => i _ _ _ q) q) q
/-- what the law promises -/
def spLaw (K : PySem.W.Frag) (P : Addr) : Sp := fun vs H Q _ => ∃ (a : Addr) (ns : List Int), vs = [.ref a] ∧ SqL K H a (ns.map V.int) ∧ ns.length ≤ 63 ∧ H P = some (.tbl #[]) ∧ ∀ H', Q (.bl true) H'
/-- the law: m begun, then the rest over data -/
theorem law_body {Pr : Program} {w : World} {K : PySem.W.Frag} {mg : Str → Option Value} {base : Heap} {st : Stmt} {rest : List Stmt} {N : List Str} {k : Nat} {f P : Addr} {oc kV doc pm cdv ct : Value} {od an : Option Addr} {osl : Array (Option Value)} {py p1 p2 p3 pos : Pos}
    (lk : K.lookup f = some ⟨oc, od, .func (PySem.W.fnOf "law" "law" (defArgs st) (defBody st) (defScope st) .none kV doc pm an cdv ct), osl⟩) (hcd : PySem.W.codeIn K cdv "law" = true) (Sc : FnScope N ["script"] (defScope st)) (h1 : N[0]? = some ("script" : Str)) (h2 : N[1]? = some ("m" : Str)) (hl : 2 ≤ N.length)
    (hb : defBody st = .Assign [.Name "m" py] (.Call (.Name "_law_begun" p1) [.Name "script" p2] [] p3) pos :: rest) (hm : (defScope st).names.lookup ("m" : Str) = some .local) (hg : (defScope st).names.lookup ("_law_begun" : Str) = some .globalImplicit) (hs0 : Vis (defScope st) "script")
    (GB : ∃ f fd, mg "_law_begun" = some (.ref f) ∧ PySem.W.keepIn K (.ref f) = true ∧ Binds K fd ["script"] [] ∧ FnOk Pr w K mg base (L2.CX Pr w) 3 f fd ["script"] (spBegun K)) (hk : 3 ≤ k)
    (hrest : ∀ (A : Around) (outer : List Env) (s : Shared) (H : Hp) (E : XK), Room k (A.deeper (envOfC "law" (defScope st) s.heap.objs.size f cdv)) → ∃ t, (∀ S F H0, S.T = [(P, ("law" : Str) ++ ".<locals>." ++ "<lambda>")] → PXSs (cxOf (L2.CX Pr w) Pr w K mg base N "law" (defScope st) f cdv A outer s H E) ⟨S, F, H0⟩ rest t) ∧
      ∀ Q : Nat → D → Prop, (∀ n, Q n (.bool true)) → t (retD Q) ⟨[.no, .d stTok] ++ List.replicate (N.length - 2) .no, 0⟩) : 
    FnOk Pr w K mg base (L2.CX Pr w) (k + 1) f (PySem.W.fnOf "law" "law" (defArgs st) (defBody st) (defScope st) .none kV doc pm an cdv ct) ["script"] (spLaw K P) := by
  refine fn_of lk hcd Sc (fun vs H Q E h => ?_) fun A outer s H vs Q E hr h => ?_
  · obtain ⟨a, ns, rfl, _⟩ := h
    rfl
  · obtain ⟨a, ns, rfl, hS, hl63, hP, q⟩ := h
    obtain ⟨fb, fdb, mb, kb, bb, GB⟩ := GB
    obtain ⟨t, ht, hq⟩ := hrest A outer s H E hr
    rw [hb]
    refine ⟨_, pss_cons (ps_set (i := 1) Sc.nd h2 (.inl hm) (pe_call GB (hr.mono hk) hg mb kb bb .nil (passes_call (takes_of rfl rfl rfl rfl) (fun _ _ _ _ h => h)) (pa_cons (pv 0 h1 hs0) pa_nil)))
      (t := _) (u := fun D σ H' => ∃ S F H0, S.T = [(P, ("law" : Str) ++ ".<locals>." ++ "<lambda>")] ∧ liftS (am (cxOf (L2.CX Pr w) Pr w K mg base N "law" (defScope st) f cdv A outer s H E) ⟨S, F, H0⟩) [] t D σ H') ⟨fun pins s' σ H' D I ⟨S, F, H0, hT, q⟩ => ((ht S F H0 hT).ps []).run pins s' σ H' D I q⟩, ?_⟩
    refine ⟨.ref a, rfl, [(P, ("law" : Str) ++ ".<locals>." ++ "<lambda>")], a, ns, rfl, hS, hl63, fun p hp => ?_, fun m cells great H' ml hne c1 c2 g1 t1 => ?_⟩
    · simp only [List.mem_cons, List.not_mem_nil, or_false] at hp
      subst hp
      exact LamX.TabS.nil hP
    · have noown : ∀ (i : Nat) (xs : List D), ([Sl.no, .d stTok] ++ List.replicate (N.length - 2) .no)[i]? = some (.own xs) → False := fun i xs h => by
        have hm := List.mem_of_getElem? h
        simp at hm
      refine ⟨⟨some m, [(P, ("law" : Str) ++ ".<locals>." ++ "<lambda>")]⟩, fun _ => none, H', rfl, ⟨[.no, .d stTok] ++ List.replicate (N.length - 2) .no, 0⟩, fun _ => none, ⟨⟨(fun _ _ e => by cases e), ml.mst rfl hne c1 c2 g1 (Nat.le_refl _) t1, fun _ _ => rfl, ?_, fun i z h => ?_, fun i j xs ys h => (noown i xs h).elim, Step.refl (fun _ _ e => by cases e), fun i xs p h => (noown i xs h).elim⟩, fun q hq => absurd hq (by simp)⟩, ?_⟩
      · simp [L2.start]
        omega
      · match i, h with
        | 0, h => cases h; trivial
        | 1, h =>
          cases h
          refine ⟨.ref m.am, ?_, .st rfl⟩
          rw [List.getElem?_set_self]
          simp [L2.start]
          omega
        | n + 2, h =>
          have hm := List.mem_of_getElem? h
          have e : z = .no := by
            simp only [List.cons_append, List.nil_append, List.getElem?_cons_succ] at h
            exact List.eq_of_mem_replicate (List.mem_of_getElem? h)
          subst e
          trivial
      · have mono := (ht ⟨some m, [(P, ("law" : Str) ++ ".<locals>." ++ "<lambda>")]⟩ (fun _ => none) H' rfl).mono
        refine mono _ _ _ ⟨fun e q F' σ' H2 s' => ?_, fun n' d q v F' H2 st' m' r' => ?_, fun _ q => False.elim q, fun _ q => False.elim q⟩ (hq (fun w d => ∀ v F' H2, Step ⟨some m, [(P, ("law" : Str) ++ ".<locals>." ++ "<lambda>")]⟩ (fun _ => none) H' F' H2 → MSt ⟨some m, [(P, ("law" : Str) ++ ".<locals>." ++ "<lambda>")]⟩ w H2 → Rp ⟨K, mg, ⟨some m, [(P, ("law" : Str) ++ ".<locals>." ++ "<lambda>")]⟩⟩ F' v d → Q v H2) fun n v F' H2 _ _ r => by cases r; exact q H2)
        · exact q .non F' H2 s'.sim.en s'.sim.ms .non
        · exact q v F' H2 st' m' r'
end PL
end
section
set_option Elab.async false
set_option linter.all false
set_option maxRecDepth 100000
set_option maxHeartbeats 4000000
set_option autoImplicit false
/-! P20: readings taken apart from the outside. -/
namespace PL
open PySem PySem.Spec PyProof.Rows L2
section
variable {e : Ev} {Q : Nat → D → Prop} {R : Nat → List D → Prop} {B : Nat → Bool → Prop} {D0 : EndsD} {t u : TSD} {ta tb tc : TD} {tr : TAD} {c c2 : TTD} {i j : Nat} {sp : SpD} {Wd : EDT} {x : D}
theorem k_seq (h : t { D0 with nx := u D0 } e) : dSeq t u D0 e := h
theorem k_next (h : D0.nx e) : dNext D0 e := h
theorem k_set (h : ta e fun w d => D0.nx ⟨e.s.set i (.d d), w⟩) : dSet i ta D0 e := h
theorem k_if (h : c e fun w k => if k = true then t D0 { e with w := w } else u D0 { e with w := w }) : dIfS c t u D0 e := h
theorem k_ret (h : ta e D0.rt) : dRet ta D0 e := h
theorem k_asg {g : TGD} (h : ta e fun w d => g d { e with w := w } D0.nx) : dAsg ta g D0 e := h
theorem k_par (h : tr e fun w ds => ∃ d1 d2, ds = [d1, d2] ∧ D0.nx ⟨(e.s.set i (.d d1)).set j (.d d2), w⟩) : dPar i j tr D0 e := h
theorem k_call (h : tr e fun w ds => sp ds w Q fun C fx w' => Wd C fx { e with w := w' }) : dCallL sp Wd tr e Q := h
theorem k_cons (h : ta e fun w x => tr { e with w := w } fun w' xs => R w' (x :: xs)) : dCons ta tr e R := h
theorem k_nil (h : R e.w []) : dNil e R := h
theorem k_var (hx : e.s[i]? = some (.d x)) (h : Q e.w x) : dVar i e Q := by
  unfold dVar
  rw [hx]
  exact h
theorem k_varE (h : ∃ x, e.s[i]? = some (.d x) ∧ Q e.w x) : dVar i e Q := by
  obtain ⟨x, hx, h⟩ := h
  exact k_var hx h
theorem k_c (h : Q e.w x) : dC x e Q := h
theorem k_lst (h : tr e fun w xs => xs.length ≤ sizeLine ∧ Q w (.list xs)) : dLst tr e Q := h
theorem k_tup (h : tr e fun w xs => xs.length ≤ sizeLine ∧ Q w (.tuple xs)) : dTup tr e Q := h
theorem k_not (h : c e fun w k => B w (!k)) : dNot c e B := h
theorem k_or (h : c e fun w k => if k = true then B w true else c2 { e with w := w } B) : dOr c c2 e B := h
theorem k_and (h : c e fun w k => if k = true then c2 { e with w := w } B else B w false) : dAnd c c2 e B := h
theorem k_test (h : ta e fun w x => ∃ k, x = .bool k ∧ B w k) : dTest ta e B := h
theorem k_op {r : RD} (h : ta e fun w x => tb { e with w := w } fun w' y => r x y (Q w')) : dOp r ta tb e Q := h
theorem k_neg (h : ta e fun w x => ∃ i, x = .int i ∧ Q w (.int (-i))) : dNeg ta e Q := h
theorem k_for {ti : TAD} {g : TGD} {tb : TSD} (h : ti e fun w ds => dForL g tb D0 ds { e with w := w }) : dFor ti g tb D0 e := h
theorem k_seqOf (h : ta e fun w x => ∃ xs, (x = .list xs ∨ x = .tuple xs) ∧ R w xs) : dSeqOf ta e R := h
end
end PL
end
section
set_option Elab.async false
set_option linter.all false
set_option maxRecDepth 100000
set_option maxHeartbeats 4000000
set_option autoImplicit false
namespace LK
open PySem PySem.Spec PyProof.Rows L2 PL
theorem like_up : ∀ {n : Nat} {x : D}, likeN n x → likeN (n + 1) x
  | 0, _, h => h.elim
  | n + 1, x, h => by
    rcases h with h | ⟨xs, e, l, h⟩
    · exact .inl h
    · exact .inr ⟨xs, e, l, fun y hy => like_up (h y hy)⟩
theorem like_le {n m : Nat} {x : D} (h : likeN n x) (l : n ≤ m) : likeN m x := by
  induction l with
  | refl => exact h
  | step _ ih => exact like_up ih
theorem like_i (n : Nat) (i : Int) : likeN (n + 1) (.int i) := .inl ⟨rfl, rfl⟩
theorem like_b (n : Nat) (b : Bool) : likeN (n + 1) (.bool b) := .inl ⟨rfl, rfl⟩
theorem like_n (n : Nat) : likeN (n + 1) .none := .inl ⟨rfl, rfl⟩
theorem like_s (n : Nat) {s : Str} (h : PyData.strOk s = true) : likeN (n + 1) (.str s) := .inl ⟨by simp [PyData.canLay0, h], rfl⟩
theorem like_t {n : Nat} {xs : List D} (l : xs.length ≤ 1000) (h : ∀ y ∈ xs, likeN n y) : likeN (n + 1) (.tuple xs) := .inr ⟨xs, .inr rfl, l, h⟩
theorem like_l {n : Nat} {xs : List D} (l : xs.length ≤ 1000) (h : ∀ y ∈ xs, likeN n y) : likeN (n + 1) (.list xs) := .inr ⟨xs, .inl rfl, l, h⟩
theorem like_shn : ∀ {n : Nat} {x : D}, likeN n x → shn n x
  | 0, _, h => h.elim
  | n + 1, x, h => by
    rcases h with ⟨h1, h2⟩ | ⟨xs, e, l, h⟩
    · refine ⟨h1, ?_⟩
      cases x <;> first | (simp [PyData.depth]; done) | (simp [flatD] at h2)
    · rcases e with rfl | rfl
      · exact shn_lst.mpr fun y hy => like_shn (h y hy)
      · exact shn_tup.mpr fun y hy => like_shn (h y hy)
theorem like_num {W : Way} {x : D} (h : okNum W x) : likeN 2 x := by
  rcases h with rfl | h
  · exact like_n 1
  · by_cases c : W = .ch
    · subst c
      obtain ⟨p, q, rfl, _⟩ := num_fr h
      refine like_t (by simp) fun y hy => ?_
      simp only [List.mem_cons, List.not_mem_nil, or_false] at hy
      rcases hy with rfl | rfl <;> exact like_i 0 _
    · obtain ⟨k, rfl⟩ := num_int c h
      exact like_i 1 _
theorem like_way (W : Way) : likeN 2 W.d := by
  cases W <;> refine like_t (by simp) fun y hy => ?_ <;> simp only [List.mem_cons, List.not_mem_nil, or_false] at hy
  · subst hy; exact like_s 0 so_0
  · subst hy; exact like_s 0 so_1
  · subst hy; exact like_s 0 so_2
  · subst hy; exact like_s 0 so_3
  · rcases hy with rfl | rfl
    · exact like_s 0 so_4
    · exact like_i 0 _
theorem like_one (W : Way) : likeN 2 (one W) := by
  cases W <;> first | exact like_i 1 _ | skip
  refine like_t (by simp) fun y hy => ?_
  simp only [List.mem_cons, List.not_mem_nil, or_false] at hy
  rcases hy with rfl | rfl <;> exact like_i 0 _
section
variable {ca : Str → Addr} {W : Way} {x y : D} {n : Nat} {Q : Nat → D → Prop} {E : ED}
theorem a_need (hW : W.ok) (q : Q n W.d) : sp_need_way ca [W.d] n Q E := ⟨_, rfl, shp_d, by dsimp only; rw [if_pos (way_d hW).1]; exact q⟩
theorem a_isway (hW : W.ok) (q : Q n (.bool true)) : sp_is_way ca [W.d] n Q E := ⟨_, rfl, shp_d, by dsimp only; rw [(way_d hW).1]; exact q⟩
theorem a_one (hW : W.ok) (q : Q n (one W)) : sp_way_one ca [W.d] n Q E := ⟨_, rfl, shp_d, by dsimp only; rw [if_pos (way_d hW).1, (way_d hW).2]; exact q⟩
theorem a_unit (hW : W.ok) (q : Q n (one W)) : sp__law_unit ca [W.d] n Q E := ⟨W, rfl, hW, q⟩
theorem a_dway (h : n + 3 < 2 ^ 60) (q : ∀ (w : Nat) (W : Way), w ≤ n + 3 → W.ok → Q w W.d) : sp__law_drawn_way ca [stTok] n Q E := ⟨(), rfl, trivial, h, fun w x hw ⟨W, a, b⟩ => by subst b; exact q w W hw a⟩
theorem a_num (hW : W.ok) (h : n + 20 < 2 ^ 60) (q : ∀ w x, w ≤ n + 20 → okNum W x → bd 450 x → Q w x) : sp__law_number ca [stTok, W.d] n Q E := ⟨W, rfl, hW, h, fun w x hw ⟨a, b⟩ => q w x hw a b⟩
theorem a_vast (h : n + 7 < 2 ^ 60) (q : ∀ w (k : Int), w ≤ n + 7 → 0 < k → k.natAbs < 2 ^ 420 → Q w (.int k)) : sp__law_vast ca [stTok] n Q E := ⟨(), rfl, trivial, h, fun w x hw ⟨k, e, a, b⟩ => by subst e; exact q w k hw a b⟩
theorem a_plus (hW : W.ok) (hx : okNum W x) (hy : okNum W y) (bx : bd 2000 x) (bY : bd 2000 y) (q : Q n (addD W x y)) : sp__law_plus ca [W.d, x, y] n Q E := ⟨(W, x, y), rfl, ⟨hW, hx, hy, bx, bY⟩, q⟩
theorem a_times (hW : W.ok) (hx : okNum W x) (hy : okNum W y) (bx : bd 2000 x) (bY : bd 2000 y) (q : Q n (mulD W x y)) : sp__law_times ca [W.d, x, y] n Q E := ⟨(W, x, y), rfl, ⟨hW, hx, hy, bx, bY⟩, q⟩
theorem shp_num (hx : okNum W x) : shp x := (like_shn (like_num hx)).shp (by decide)
theorem a_add (hW : W.ok) (hx : okNum W x) (hy : okNum W y) (bx : bd 2000 x) (bY : bd 2000 y) (q : Q n (addD W x y)) : sp_added_numbers ca [W.d, x, y] n Q E := by
  refine ⟨(W.d, x, y), rfl, ⟨shp_d, shp_num hx, shp_num hy, fun _ _ _ => ⟨bx, bY⟩⟩, ?_⟩
  show outD (refO ca W.d x y _) n Q E
  unfold refO
  rw [if_pos (way_d hW).1, (way_d hW).2, if_pos (okB_iff.mpr hx), if_pos (okB_iff.mpr hy)]
  exact q
theorem a_mul (hW : W.ok) (hx : okNum W x) (hy : okNum W y) (bx : bd 2000 x) (bY : bd 2000 y) (q : Q n (mulD W x y)) : sp_multiplied_numbers ca [W.d, x, y] n Q E := by
  refine ⟨(W.d, x, y), rfl, ⟨shp_d, shp_num hx, shp_num hy, fun _ _ _ => ⟨bx, bY⟩⟩, ?_⟩
  show outD (refO ca W.d x y _) n Q E
  unfold refO
  rw [if_pos (way_d hW).1, (way_d hW).2, if_pos (okB_iff.mpr hx), if_pos (okB_iff.mpr hy)]
  exact q
theorem a_like (h : likeN 5 x) (q : Q n (.bool true)) : spLike (likeN 5) [x, x] n Q E := ⟨x, rfl, h, q⟩
theorem a_isnum (hW : W.ok) (hx : shp x) (hB : ∀ p q : Int, x = .tuple [.int p, .int q] → q.natAbs < 2 ^ 8000) (q : Q n (.bool (isNum W x))) : sp__law_is_number ca [W.d, x] n Q E := ⟨(W, x), rfl, ⟨hW, hx, hB⟩, q⟩
theorem a_iwn (hW : W.ok) (hx : shp x) (q : Q n (.bool (isNum W x))) : sp_is_way_number ca [W.d, x] n Q E := ⟨W.d, x, rfl, ⟨shp_d, hx⟩, by dsimp only; rw [if_pos (way_d hW).1, (way_d hW).2]; exact q⟩
/-- refused: an odd number, first -/
theorem a_ref1 (hW : W.ok) (hx : shp x) (hy : shp y) (no : okB W x = false) (q : E (ca "BadNumber") (some (PySem.Str.ofString "number", x)) n) : sp_added_numbers ca [W.d, x, y] n Q E := by
  refine ⟨(W.d, x, y), rfl, ⟨shp_d, hx, hy, fun _ h _ => ?_⟩, ?_⟩
  · rw [(way_d hW).2, no] at h
    cases h
  · show outD (refO ca W.d x y _) n Q E
    unfold refO
    rw [if_pos (way_d hW).1, (way_d hW).2, if_neg (by rw [no]; decide)]
    exact q
theorem a_ref2 (hW : W.ok) (hx : okNum W x) (hy : shp y) (no : okB W y = false) (q : E (ca "BadNumber") (some (PySem.Str.ofString "number", y)) n) : sp_multiplied_numbers ca [W.d, x, y] n Q E := by
  refine ⟨(W.d, x, y), rfl, ⟨shp_d, shp_num hx, hy, fun _ _ h => ?_⟩, ?_⟩
  · rw [(way_d hW).2, no] at h
    cases h
  · show outD (refO ca W.d x y _) n Q E
    unfold refO
    rw [if_pos (way_d hW).1, (way_d hW).2, if_pos (okB_iff.mpr hx), if_neg (by rw [no]; decide)]
    exact q
end
theorem one_ok (W : Way) (hW : W.ok) : okNum W (one W) := by
  cases W with
  | lf m =>
    have := hW.1
    exact .inr (by simp [isNum, one]; omega)
  | _ => exact .inr (by first | rfl | decide)
theorem one_bd (W : Way) : bd 2000 (one W) := by
  cases W <;> first | exact nb_le (A := 2) (by decide) (by decide) | exact ⟨nb_le (A := 2) (by decide) (by decide), nb_le (A := 2) (by decide) (by decide)⟩
theorem eqv_num {W : Way} {x : D} (h : okNum W x) : PyData.eqv x x = true := by
  rcases h with rfl | h
  · exact ev_nn
  · by_cases c : W = .ch
    · subst c
      obtain ⟨p, q, rfl, _⟩ := num_fr h
      simp [ev_tt, ea_cc, ea_nn, ev_ii]
    · obtain ⟨k, rfl⟩ := num_int c h
      simp [ev_ii]
/-- a value that may be asked of -/
structure OddOk (x : D) : Prop where
  like : likeN 3 x
  non : isNonD x = false
  bits : ∀ p q : Int, x = .tuple [.int p, .int q] → q.natAbs < 2 ^ 8000
theorem OddOk.shp {x : D} (h : OddOk x) : PL.shp x := (like_shn h.like).shp (by decide)
theorem odd_i (i : Int) : OddOk (.int i) := ⟨like_i 2 i, rfl, fun p q e => by cases e⟩
theorem odd_b (b : Bool) : OddOk (.bool b) := ⟨like_b 2 b, rfl, fun p q e => by cases e⟩
theorem odd_s {s : Str} (h : PyData.strOk s = true) : OddOk (.str s) := ⟨like_s 2 h, rfl, fun p q e => by cases e⟩
theorem odd_ii (i j : Int) (h : j.natAbs < 2 ^ 60) : OddOk (.tuple [.int i, .int j]) := ⟨like_t (by simp) fun y hy => by
  simp only [List.mem_cons, List.not_mem_nil, or_false] at hy
  rcases hy with rfl | rfl <;> exact like_i 1 _, rfl, fun p q e => by
  cases e
  exact nb_le h (by decide)⟩
theorem a_last {W : Way} {Q : D → Prop} (q : ∀ d, OddOk d → Q d) : rIxD W.d (.int (-1)) Q := by
  cases W
  · exact ⟨_, ixl1 _, q _ (odd_s so_0)⟩
  · exact ⟨_, ixl1 _, q _ (odd_s so_1)⟩
  · exact ⟨_, ixl1 _, q _ (odd_s so_2)⟩
  · exact ⟨_, ixl1 _, q _ (odd_s so_3)⟩
  · exact ⟨_, ixl2 _ _, q _ (odd_i _)⟩
theorem rep2 (x : D) : (List.replicate (2 : Int).toNat [x]).flatten = [x, x] := rfl
theorem rep3 (x : D) : (List.replicate (3 : Int).toNat [x]).flatten = [x, x, x] := rfl
theorem if_not_true {A B : Prop} (h : B) : if (!true) = true then A else B := h
theorem k_give {ca : Str → Addr} {tb : ED → TD} {e : Ev} {Q : Nat → D → Prop} (h : tb (fun C fx w => (C = ca "BadWay" ∧ ∃ x, fx = some (PySem.Str.ofString "way", x) ∧ Q w (.tuple [.str "way", x])) ∨ (C = ca "BadNumber" ∧ ∃ x, fx = some (PySem.Str.ofString "number", x) ∧ Q w (.tuple [.str "number", x]))) ⟨mask e.s, e.w⟩ Q) : dGive (spRefused ca) tb e Q := h
theorem so_a : PyData.strOk (PySem.Str.ofString "number") = true := by decide +kernel
theorem so_b : PyData.strOk (PySem.Str.ofString "way") = true := by decide +kernel
theorem so_c : PyData.strOk (PySem.Str.ofString "?") = true := by decide +kernel
theorem so_d : PyData.strOk (PySem.Str.ofString "1") = true := by decide +kernel
theorem so_e : PyData.strOk (PySem.Str.ofString "counts") = true := by decide +kernel
theorem so_f : PyData.strOk (PySem.Str.ofString "7") = true := by decide +kernel
theorem like_p {s : Str} {y : D} (hs : PyData.strOk s = true) (h : likeN 3 y) : likeN 4 (.tuple [.str s, y]) := like_t (by simp) fun z hz => by
  simp only [List.mem_cons, List.not_mem_nil, or_false] at hz
  rcases hz with rfl | rfl
  · exact like_s 2 hs
  · exact h
theorem odd_t1 (i : Int) : OddOk (.tuple [.int i]) := ⟨like_t (by simp) fun y hy => by
  simp only [List.mem_cons, List.not_mem_nil, or_false] at hy
  rw [hy]
  exact like_i 1 _, rfl, fun p q e => by cases e⟩
theorem odd_l (i j : Int) : OddOk (.list [.int i, .int j]) := ⟨like_l (by simp) fun y hy => by
  simp only [List.mem_cons, List.not_mem_nil, or_false] at hy
  rcases hy with rfl | rfl <;> exact like_i 1 _, rfl, fun p q e => by cases e⟩
theorem odd_bi (b : Bool) (j : Int) : OddOk (.tuple [.bool b, .int j]) := ⟨like_t (by simp) fun y hy => by
  simp only [List.mem_cons, List.not_mem_nil, or_false] at hy
  rcases hy with rfl | rfl
  · exact like_b 1 _
  · exact like_i 1 _, rfl, fun p q e => by cases e⟩
theorem shp_q : shp (.str "?") := ⟨by simp [PyData.canLay0]; exact so_c, by simp [PyData.depth]⟩
theorem shp_none' : shp .none := shp_none
theorem isNum_none (W : Way) : isNum W .none = false := by cases W <;> rfl
/-- what is no way -/
structure NoWay (y : D) : Prop where
  like : likeN 3 y
  no : isWay y = false
theorem NoWay.shp {x : D} (h : NoWay x) : PL.shp x := (like_shn h.like).shp (by decide)
section
variable {ca : Str → Addr} {x y z : D} {n : Nat} {Q : Nat → D → Prop} {E : ED}
theorem b_isway (h : NoWay x) (q : Q n (.bool false)) : sp_is_way ca [x] n Q E := ⟨_, rfl, h.shp, by dsimp only; rw [h.no]; exact q⟩
theorem b_need (h : NoWay x) (q : E (ca "BadWay") (some (PySem.Str.ofString "way", x)) n) : sp_need_way ca [x] n Q E := ⟨_, rfl, h.shp, by dsimp only; rw [if_neg (by rw [h.no]; decide)]; exact q⟩
theorem b_one (h : NoWay x) (q : E (ca "BadWay") (some (PySem.Str.ofString "way", x)) n) : sp_way_one ca [x] n Q E := ⟨_, rfl, h.shp, by dsimp only; rw [if_neg (by rw [h.no]; decide)]; exact q⟩
theorem b_iwn (h : NoWay x) (hy : shp y) (q : E (ca "BadWay") (some (PySem.Str.ofString "way", x)) n) : sp_is_way_number ca [x, y] n Q E := ⟨_, _, rfl, ⟨h.shp, hy⟩, by dsimp only; rw [if_neg (by rw [h.no]; decide)]; exact q⟩
theorem b_add (h : NoWay x) (hy : shp y) (hz : shp z) (q : E (ca "BadWay") (some (PySem.Str.ofString "way", x)) n) : sp_added_numbers ca [x, y, z] n Q E := by
  refine ⟨(x, y, z), rfl, ⟨h.shp, hy, hz, fun w => ?_⟩, ?_⟩
  · rw [h.no] at w
    cases w
  · show outD (refO ca x y z _) n Q E
    unfold refO
    rw [if_neg (by rw [h.no]; decide)]
    exact q
end
theorem like_t0 (n : Nat) : likeN (n + 1) (.tuple []) := like_t (by simp) (by simp)
theorem like_t1 {n : Nat} {a : D} (h : likeN n a) : likeN (n + 1) (.tuple [a]) := like_t (by simp) fun y hy => by
  simp only [List.mem_cons, List.not_mem_nil, or_false] at hy
  rw [hy]
  exact h
theorem like_t2 {n : Nat} {a b : D} (h : likeN n a) (h2 : likeN n b) : likeN (n + 1) (.tuple [a, b]) := like_t (by simp) fun y hy => by
  simp only [List.mem_cons, List.not_mem_nil, or_false] at hy
  rcases hy with rfl | rfl
  · exact h
  · exact h2
theorem like_l1 {n : Nat} {a : D} (h : likeN n a) : likeN (n + 1) (.list [a]) := like_l (by simp) fun y hy => by
  simp only [List.mem_cons, List.not_mem_nil, or_false] at hy
  rw [hy]
  exact h
end LK
end
section
set_option Elab.async false
set_option linter.all false
set_option maxRecDepth 100000
set_option maxHeartbeats 4000000
set_option autoImplicit false
namespace LK
open PySem PySem.Spec PyProof.Rows L2 PL
theorem mG_refused {ca : Str → Addr} : ∀ (τ : Tau) (n : Nat) (Q Q' : Nat → D → Prop), MonTau τ → (∀ w d, Q w d → Q' w d) → spRefused ca τ n Q → spRefused ca τ n Q' := fun τ n Q Q' m i q => m _ _ _ _ _ i (fun C fx w q => by
  rcases q with ⟨a, x, b, q⟩ | ⟨a, x, b, q⟩
  · exact .inl ⟨a, x, b, i _ _ q⟩
  · exact .inr ⟨a, x, b, i _ _ q⟩) q
theorem sc_law : FnScope ["script", "m", "turn", "way", "one", "far", "third", "both", "times", "told", "odds", "odd", "is_so"] ["script"] (defScope s_law) := ⟨rfl, rfl, rfl, by decide +kernel, rfl, by decide +kernel, by decide +kernel⟩
theorem law_rest {w : World} {K : PySem.W.Frag} {mg : Str → Option Value} {base : Heap} {ca : Str → Addr} {f c P : Addr} (T : Txt K mg ca)
    (x1 : PySem.W.exmOne K (.ref (ca "BadWay")) (.ref (ca "BadWay")) = some true) (x2 : PySem.W.exmOne K (.ref (ca "BadNumber")) (.ref (ca "BadWay")) = some false) (x3 : PySem.W.exmOne K (.ref (ca "BadNumber")) (.ref (ca "BadNumber")) = some true)
    (TB : LamX.TabB base mg c P)
    (h__law_drawn_way : DOk prog w K mg base 4 "_law_drawn_way" ["m"] (sp__law_drawn_way ca))
    (h__law_is_number : DOk prog w K mg base 3 "_law_is_number" ["way", "value"] (sp__law_is_number ca))
    (h__law_like : DOk prog w K mg base 5 "_law_like" ["told", "due"] (spLike (likeN 5)))
    (h__law_number : DOk prog w K mg base 5 "_law_number" ["m", "way"] (sp__law_number ca))
    (h__law_plus : DOk prog w K mg base 2 "_law_plus" ["way", "one", "far"] (sp__law_plus ca))
    (h__law_times : DOk prog w K mg base 2 "_law_times" ["way", "one", "far"] (sp__law_times ca))
    (h__law_unit : DOk prog w K mg base 1 "_law_unit" ["way"] (sp__law_unit ca))
    (h__law_vast : DOk prog w K mg base 4 "_law_vast" ["m"] (sp__law_vast ca))
    (h_added_numbers : DOk prog w K mg base 6 "added_numbers" ["way", "one", "other"] (sp_added_numbers ca))
    (h_is_way : DOk prog w K mg base 3 "is_way" ["value"] (sp_is_way ca))
    (h_is_way_number : DOk prog w K mg base 5 "is_way_number" ["way", "value"] (sp_is_way_number ca))
    (h_multiplied_numbers : DOk prog w K mg base 6 "multiplied_numbers" ["way", "one", "other"] (sp_multiplied_numbers ca))
    (h_need_way : DOk prog w K mg base 4 "need_way" ["way"] (sp_need_way ca))
    (h_way_one : DOk prog w K mg base 5 "way_one" ["way"] (sp_way_one ca))
    (A : Around) (outer : List Env) (s : Shared) (H : Hp) (E : XK) (hr : Room 8 (A.deeper (envOfC "law" (defScope s_law) s.heap.objs.size f (.ref c)))) :
    ∃ t, (∀ S F H0, S.T = [(P, ("law" : Str) ++ ".<locals>." ++ "<lambda>")] → PXSs (cxOf (L2.CX prog w) prog w K mg base ["script", "m", "turn", "way", "one", "far", "third", "both", "times", "told", "odds", "odd", "is_so"] "law" (defScope s_law) f (.ref c) A outer s H E) ⟨S, F, H0⟩ (defBody s_law).tail t) ∧
      ∀ Q : Nat → D → Prop, (∀ n, Q n (.bool true)) → t (retD Q) ⟨[.no, .d stTok] ++ List.replicate (13 - 2) .no, 0⟩ := by
  refine ⟨_, fun S F H0 hT => (pxs_cons (pxs_for passes_cx rfl (pxi_range1 rfl T.b_range (pxa_cons (px_c pe_int fun _ _ => .int _) pxa_nil)) (pxg_name 2 sc_law.nd rfl (.inl rfl)) (pxs_cons (pxs_set 3 sc_law.nd rfl (.inr rfl) (px_callL lets_no h__law_drawn_way mo__law_drawn_way (hr.mono (by decide)) (pxa_cons (px_var 1 (pv 1)) pxa_nil))) (pxs_cons (pxs_if (pxt_not (pxt_val (px_callL lets_no h__law_like moLike (hr.mono (by decide)) (pxa_cons (px_lst (pxa_cons (px_callL lets_no h_need_way mo_need_way (hr.mono (by decide)) (pxa_cons (px_var 3 (pv 3)) pxa_nil)) (pxa_cons (px_callL lets_no h_is_way mo_is_way (hr.mono (by decide)) (pxa_cons (px_var 3 (pv 3)) pxa_nil)) (pxa_cons (px_callL lets_no h_way_one mo_way_one (hr.mono (by decide)) (pxa_cons (px_var 3 (pv 3)) pxa_nil)) pxa_nil)))) (pxa_cons (px_lst (pxa_cons (px_var 3 (pv 3)) (pxa_cons (px_c pe_bl fun _ _ => .bl _) (pxa_cons (px_callL lets_no h__law_unit mo__law_unit (hr.mono (by decide)) (pxa_cons (px_var 3 (pv 3)) pxa_nil)) pxa_nil)))) pxa_nil))))) (pxs_cons (pxs_ret (px_c pe_bl fun _ _ => .bl _)) pxs_nil) pxs_nil) (pxs_cons (pxs_asg (px_tup (pxa_cons (px_callL lets_no h__law_number mo__law_number (hr.mono (by decide)) (pxa_cons (px_var 1 (pv 1)) (pxa_cons (px_var 3 (pv 3)) pxa_nil))) (pxa_cons (px_callL lets_no h__law_number mo__law_number (hr.mono (by decide)) (pxa_cons (px_var 1 (pv 1)) (pxa_cons (px_var 3 (pv 3)) pxa_nil))) (pxa_cons (px_callL lets_no h__law_number mo__law_number (hr.mono (by decide)) (pxa_cons (px_var 1 (pv 1)) (pxa_cons (px_var 3 (pv 3)) pxa_nil))) pxa_nil)))) (pxg_tup (n := 3) rfl (pxgs_cons (pxg_name 4 sc_law.nd rfl (.inr rfl)) (pxgs_cons (pxg_name 5 sc_law.nd rfl (.inl rfl)) (pxgs_cons (pxg_name 6 sc_law.nd rfl (.inl rfl)) pxgs_nil))))) (pxs_cons (pxs_par 7 8 rfl sc_law.nd rfl rfl (by decide) rfl rfl (pxa_cons (px_callL lets_no h__law_plus mo__law_plus (hr.mono (by decide)) (pxa_cons (px_var 3 (pv 3)) (pxa_cons (px_var 4 (pv 4)) (pxa_cons (px_var 5 (pv 5)) pxa_nil)))) (pxa_cons (px_callL lets_no h__law_times mo__law_times (hr.mono (by decide)) (pxa_cons (px_var 3 (pv 3)) (pxa_cons (px_var 4 (pv 4)) (pxa_cons (px_var 5 (pv 5)) pxa_nil)))) pxa_nil)) rfl) (pxs_cons (pxs_set 9 sc_law.nd rfl (.inl rfl) (px_lst (pxa_cons (px_callL lets_no h_added_numbers mo_added_numbers (hr.mono (by decide)) (pxa_cons (px_var 3 (pv 3)) (pxa_cons (px_var 4 (pv 4)) (pxa_cons (px_var 5 (pv 5)) pxa_nil)))) (pxa_cons (px_callL lets_no h_added_numbers mo_added_numbers (hr.mono (by decide)) (pxa_cons (px_var 3 (pv 3)) (pxa_cons (px_var 5 (pv 5)) (pxa_cons (px_var 4 (pv 4)) pxa_nil)))) (pxa_cons (px_callL lets_no h_multiplied_numbers mo_multiplied_numbers (hr.mono (by decide)) (pxa_cons (px_var 3 (pv 3)) (pxa_cons (px_var 4 (pv 4)) (pxa_cons (px_var 5 (pv 5)) pxa_nil)))) (pxa_cons (px_callL lets_no h_multiplied_numbers mo_multiplied_numbers (hr.mono (by decide)) (pxa_cons (px_var 3 (pv 3)) (pxa_cons (px_var 5 (pv 5)) (pxa_cons (px_var 4 (pv 4)) pxa_nil)))) pxa_nil)))))) (pxs_cons (pxs_if (pxt_not (pxt_val (px_callL lets_no h__law_like moLike (hr.mono (by decide)) (pxa_cons (px_var 9 (pv 9)) (pxa_cons (px_lst (pxa_cons (px_var 7 (pv 7)) (pxa_cons (px_var 7 (pv 7)) (pxa_cons (px_var 8 (pv 8)) (pxa_cons (px_var 8 (pv 8)) pxa_nil))))) pxa_nil))))) (pxs_cons (pxs_ret (px_c pe_bl fun _ _ => .bl _)) pxs_nil) pxs_nil) (pxs_cons (pxs_set 9 sc_law.nd rfl (.inl rfl) (px_lst (pxa_cons (px_callL lets_no h_multiplied_numbers mo_multiplied_numbers (hr.mono (by decide)) (pxa_cons (px_var 3 (pv 3)) (pxa_cons (px_var 6 (pv 6)) (pxa_cons (px_var 7 (pv 7)) pxa_nil)))) (pxa_cons (px_callL lets_no h_added_numbers mo_added_numbers (hr.mono (by decide)) (pxa_cons (px_var 3 (pv 3)) (pxa_cons (px_callL lets_no h_multiplied_numbers mo_multiplied_numbers (hr.mono (by decide)) (pxa_cons (px_var 3 (pv 3)) (pxa_cons (px_var 6 (pv 6)) (pxa_cons (px_var 4 (pv 4)) pxa_nil)))) (pxa_cons (px_callL lets_no h_multiplied_numbers mo_multiplied_numbers (hr.mono (by decide)) (pxa_cons (px_var 3 (pv 3)) (pxa_cons (px_var 6 (pv 6)) (pxa_cons (px_var 5 (pv 5)) pxa_nil)))) pxa_nil)))) pxa_nil)))) (pxs_cons (pxs_if (pxt_not (pxt_val (px_callL lets_no h__law_like moLike (hr.mono (by decide)) (pxa_cons (px_var 9 (pv 9)) (pxa_cons (px_op od_mul (px_lst (pxa_cons (px_callL lets_no h__law_times mo__law_times (hr.mono (by decide)) (pxa_cons (px_var 3 (pv 3)) (pxa_cons (px_var 6 (pv 6)) (pxa_cons (px_var 7 (pv 7)) pxa_nil)))) pxa_nil)) (px_c pe_int fun _ _ => .int _)) pxa_nil))))) (pxs_cons (pxs_ret (px_c pe_bl fun _ _ => .bl _)) pxs_nil) pxs_nil) (pxs_cons (pxs_set 9 sc_law.nd rfl (.inl rfl) (px_lst (pxa_cons (px_callL lets_no h_added_numbers mo_added_numbers (hr.mono (by decide)) (pxa_cons (px_var 3 (pv 3)) (pxa_cons (px_var 4 (pv 4)) (pxa_cons (px_c pe_non fun _ _ => .non) pxa_nil)))) (pxa_cons (px_callL lets_no h_multiplied_numbers mo_multiplied_numbers (hr.mono (by decide)) (pxa_cons (px_var 3 (pv 3)) (pxa_cons (px_var 4 (pv 4)) (pxa_cons (px_c pe_non fun _ _ => .non) pxa_nil)))) (pxa_cons (px_callL lets_no h_multiplied_numbers mo_multiplied_numbers (hr.mono (by decide)) (pxa_cons (px_var 3 (pv 3)) (pxa_cons (px_var 4 (pv 4)) (pxa_cons (px_callL lets_no h_way_one mo_way_one (hr.mono (by decide)) (pxa_cons (px_var 3 (pv 3)) pxa_nil)) pxa_nil)))) pxa_nil))))) (pxs_cons (pxs_if (PXW.pt (pxw_or (pxt_not (pxt_val (px_callL lets_no h__law_like moLike (hr.mono (by decide)) (pxa_cons (px_var 9 (pv 9)) (pxa_cons (px_lst (pxa_cons (px_var 4 (pv 4)) (pxa_cons (px_c pe_non fun _ _ => .non) (pxa_cons (px_var 4 (pv 4)) pxa_nil)))) pxa_nil))))) (pxw_or1 (pxt_cmp (od_ne (Room.eqU hr)) (px_callL lets_no h__law_plus mo__law_plus (hr.mono (by decide)) (pxa_cons (px_var 3 (pv 3)) (pxa_cons (px_callL lets_no h__law_plus mo__law_plus (hr.mono (by decide)) (pxa_cons (px_var 3 (pv 3)) (pxa_cons (px_var 4 (pv 4)) (pxa_cons (px_var 5 (pv 5)) pxa_nil)))) (pxa_cons (px_var 6 (pv 6)) pxa_nil)))) (px_callL lets_no h__law_plus mo__law_plus (hr.mono (by decide)) (pxa_cons (px_var 3 (pv 3)) (pxa_cons (px_var 4 (pv 4)) (pxa_cons (px_callL lets_no h__law_plus mo__law_plus (hr.mono (by decide)) (pxa_cons (px_var 3 (pv 3)) (pxa_cons (px_var 5 (pv 5)) (pxa_cons (px_var 6 (pv 6)) pxa_nil)))) pxa_nil)))) (nomark _))))) (pxs_cons (pxs_ret (px_c pe_bl fun _ _ => .bl _)) pxs_nil) pxs_nil) (pxs_cons (pxs_set 10 sc_law.nd rfl (.inl rfl) (px_lst (pxa_cons (px_c pe_int fun _ _ => .int _) (pxa_cons (px_neg (px_c pe_int fun _ _ => .int _)) (pxa_cons (px_c pe_int fun _ _ => .int _) (pxa_cons (px_c pe_int fun _ _ => .int _) (pxa_cons (px_c pe_bl fun _ _ => .bl _) (pxa_cons (px_c pe_str fun _ _ => .str _) (pxa_cons (px_tup (pxa_cons (px_c pe_int fun _ _ => .int _) pxa_nil)) (pxa_cons (px_tup (pxa_cons (px_c pe_int fun _ _ => .int _) (pxa_cons (px_c pe_int fun _ _ => .int _) pxa_nil))) (pxa_cons (px_tup (pxa_cons (px_c pe_int fun _ _ => .int _) (pxa_cons (px_c pe_int fun _ _ => .int _) pxa_nil))) (pxa_cons (px_tup (pxa_cons (px_c pe_int fun _ _ => .int _) (pxa_cons (px_c pe_int fun _ _ => .int _) pxa_nil))) (pxa_cons (px_tup (pxa_cons (px_neg (px_c pe_int fun _ _ => .int _)) (pxa_cons (px_c pe_int fun _ _ => .int _) pxa_nil))) (pxa_cons (px_tup (pxa_cons (px_c pe_int fun _ _ => .int _) (pxa_cons (px_c pe_int fun _ _ => .int _) pxa_nil))) (pxa_cons (px_tup (pxa_cons (px_c pe_int fun _ _ => .int _) (pxa_cons (px_neg (px_c pe_int fun _ _ => .int _)) pxa_nil))) (pxa_cons (px_lst (pxa_cons (px_c pe_int fun _ _ => .int _) (pxa_cons (px_c pe_int fun _ _ => .int _) pxa_nil))) (pxa_cons (px_ix id_ix (px_var 3 (pv 3)) (px_neg (px_c pe_int fun _ _ => .int _)) (fun _ _ => rfl)) (pxa_cons (px_tup (pxa_cons (px_c pe_bl fun _ _ => .bl _) (pxa_cons (px_c pe_int fun _ _ => .int _) pxa_nil))) (pxa_cons (px_callL lets_no h__law_vast mo__law_vast (hr.mono (by decide)) (pxa_cons (px_var 1 (pv 1)) pxa_nil)) (pxa_cons (px_op od_sub (px_c pe_int fun _ _ => .int _) (px_callL lets_no h__law_vast mo__law_vast (hr.mono (by decide)) (pxa_cons (px_var 1 (pv 1)) pxa_nil))) (pxa_cons (px_tup (pxa_cons (px_op od_mul (px_c pe_int fun _ _ => .int _) (px_callL lets_no h__law_vast mo__law_vast (hr.mono (by decide)) (pxa_cons (px_var 1 (pv 1)) pxa_nil))) (pxa_cons (px_c pe_int fun _ _ => .int _) pxa_nil))) pxa_nil))))))))))))))))))))) (pxs_cons (pxs_for passes_cx rfl (pxi_seq (px_var 10 (pv 10))) (pxg_name 11 sc_law.nd rfl (.inr rfl)) (pxs_cons (pxs_set 12 sc_law.nd rfl (.inl rfl) (px_callL lets_no h__law_is_number mo__law_is_number (hr.mono (by decide)) (pxa_cons (px_var 3 (pv 3)) (pxa_cons (px_var 11 (pv 11)) pxa_nil)))) (pxs_cons (pxs_if (pxt_not (pxt_val (px_callL lets_no h__law_like moLike (hr.mono (by decide)) (pxa_cons (px_callL lets_no h_is_way_number mo_is_way_number (hr.mono (by decide)) (pxa_cons (px_var 3 (pv 3)) (pxa_cons (px_var 11 (pv 11)) pxa_nil))) (pxa_cons (px_var 12 (pv 12)) pxa_nil))))) (pxs_cons (pxs_ret (px_c pe_bl fun _ _ => .bl _)) pxs_nil) pxs_nil) (pxs_cons (pxs_if (pxt_not (pxt_val (px_var 12 (pv 12)))) (pxs_cons (pxs_set 9 sc_law.nd rfl (.inl rfl) (px_lst (pxa_cons (px_lam (k := 6) (prm := none) (tb := fun ed => dCallL (sp_added_numbers ca) (fun C fx e => ed C fx e.w) (dCons (dVar 3) (dCons (dVar 11) (dCons (dVar 4) dNil)))) T.a__law_refused sc__law_refused rfl (.inl rfl) (ok__law_refused rfl T x1 x2 x3) mG_refused TB rfl (by rw [hT]; exact List.mem_cons_self) (by rw [hT]; exact fun p hp _ => by simp only [List.mem_cons, List.not_mem_nil, or_false] at hp; subst hp; rfl) hr (lamSc_by rfl) (fun _ => rfl) (fun s c2 dV doc pm ctv dv h0 h1 => by obtain ⟨rfl, rfl⟩ := h0 rfl; exact BindsTo.of_eq rfl) (fun A2 outer2 s2 F2 H2 E2 f2 c2 hr2 => (px_callL lets_lam h_added_numbers mo_added_numbers (hr2.mono (by decide)) (pxa_cons (px_var 3 (pv 3)) (pxa_cons (px_var 11 (pv 11)) (pxa_cons (px_var 4 (pv 4)) pxa_nil))))) (mtb_call mo_added_numbers (dCons_mono (dVar_mono 3) (dCons_mono (dVar_mono 11) (dCons_mono (dVar_mono 4) dNil_mono))))) (pxa_cons (px_lam (k := 6) (prm := (some "x")) (tb := fun ed => dCallL (sp_multiplied_numbers ca) (fun C fx e => ed C fx e.w) (dCons (dVar 3) (dCons (dVar 4) (dCons (dVar 11) dNil)))) T.a__law_refused sc__law_refused rfl (.inl rfl) (ok__law_refused rfl T x1 x2 x3) mG_refused TB rfl (by rw [hT]; exact List.mem_cons_self) (by rw [hT]; exact fun p hp _ => by simp only [List.mem_cons, List.not_mem_nil, or_false] at hp; subst hp; rfl) hr (lamSc_by rfl) ⟨_, _, _, rfl, rfl⟩ (fun s c2 dV doc pm ctv dv h0 h1 => by obtain ⟨t, v, rfl, rfl, ho⟩ := h1 rfl; exact BindsTo.of_defaults rfl ho rfl rfl rfl) (fun A2 outer2 s2 F2 H2 E2 f2 c2 hr2 => (px_callL lets_lam h_multiplied_numbers mo_multiplied_numbers (hr2.mono (by decide)) (pxa_cons (px_var 3 (pv 3)) (pxa_cons (px_var 4 (pv 4)) (pxa_cons (px_var 11 (pv 11)) pxa_nil))))) (mtb_call mo_multiplied_numbers (dCons_mono (dVar_mono 3) (dCons_mono (dVar_mono 4) (dCons_mono (dVar_mono 11) dNil_mono))))) pxa_nil)))) (pxs_cons (pxs_if (PXW.pt (pxw_or (pxt_not (pxt_val (px_callL lets_no h__law_like moLike (hr.mono (by decide)) (pxa_cons (px_var 9 (pv 9)) (pxa_cons (px_op od_mul (px_lst (pxa_cons (px_tup (pxa_cons (px_c pe_str fun _ _ => .str _) (pxa_cons (px_var 11 (pv 11)) pxa_nil))) pxa_nil)) (px_c pe_int fun _ _ => .int _)) pxa_nil))))) (pxw_or1 (pxt_not (pxt_val (px_callL lets_no h__law_like moLike (hr.mono (by decide)) (pxa_cons (px_lam (k := 6) (prm := none) (tb := fun ed => dCallL (sp_added_numbers ca) (fun C fx e => ed C fx e.w) (dCons (dVar 3) (dCons (dVar 11) (dCons (dC (.str "?")) dNil)))) T.a__law_refused sc__law_refused rfl (.inl rfl) (ok__law_refused rfl T x1 x2 x3) mG_refused TB rfl (by rw [hT]; exact List.mem_cons_self) (by rw [hT]; exact fun p hp _ => by simp only [List.mem_cons, List.not_mem_nil, or_false] at hp; subst hp; rfl) hr (lamSc_by rfl) (fun _ => rfl) (fun s c2 dV doc pm ctv dv h0 h1 => by obtain ⟨rfl, rfl⟩ := h0 rfl; exact BindsTo.of_eq rfl) (fun A2 outer2 s2 F2 H2 E2 f2 c2 hr2 => (px_callL lets_lam h_added_numbers mo_added_numbers (hr2.mono (by decide)) (pxa_cons (px_var 3 (pv 3)) (pxa_cons (px_var 11 (pv 11)) (pxa_cons (px_c pe_str fun _ _ => .str _) pxa_nil))))) (mtb_call mo_added_numbers (dCons_mono (dVar_mono 3) (dCons_mono (dVar_mono 11) (dCons_mono (dC_mono _) dNil_mono))))) (pxa_cons (px_tup (pxa_cons (px_c pe_str fun _ _ => .str _) (pxa_cons (px_var 11 (pv 11)) pxa_nil))) pxa_nil)))))))) (pxs_cons (pxs_ret (px_c pe_bl fun _ _ => .bl _)) pxs_nil) pxs_nil) pxs_nil)) pxs_nil) pxs_nil)))) (pxs_cons (pxs_if (pxt_not (pxt_val (px_callL lets_no h__law_like moLike (hr.mono (by decide)) (pxa_cons (px_callL lets_no h_is_way_number mo_is_way_number (hr.mono (by decide)) (pxa_cons (px_var 3 (pv 3)) (pxa_cons (px_c pe_non fun _ _ => .non) pxa_nil))) (pxa_cons (px_c pe_bl fun _ _ => .bl _) pxa_nil))))) (pxs_cons (pxs_ret (px_c pe_bl fun _ _ => .bl _)) pxs_nil) pxs_nil) pxs_nil)))))))))))))) (pxs_cons (pxs_for passes_cx rfl (pxi_seq (px_tup (pxa_cons (px_c pe_str fun _ _ => .str _) (pxa_cons (px_tup pxa_nil) (pxa_cons (px_tup (pxa_cons (px_c pe_str fun _ _ => .str _) pxa_nil)) (pxa_cons (px_tup (pxa_cons (px_c pe_str fun _ _ => .str _) (pxa_cons (px_c pe_int fun _ _ => .int _) pxa_nil))) (pxa_cons (px_tup (pxa_cons (px_c pe_str fun _ _ => .str _) pxa_nil)) (pxa_cons (px_tup (pxa_cons (px_c pe_str fun _ _ => .str _) (pxa_cons (px_c pe_int fun _ _ => .int _) pxa_nil))) (pxa_cons (px_tup (pxa_cons (px_c pe_str fun _ _ => .str _) (pxa_cons (px_c pe_int fun _ _ => .int _) pxa_nil))) (pxa_cons (px_tup (pxa_cons (px_c pe_str fun _ _ => .str _) (pxa_cons (px_c pe_bl fun _ _ => .bl _) pxa_nil))) (pxa_cons (px_lst (pxa_cons (px_c pe_str fun _ _ => .str _) pxa_nil)) (pxa_cons (px_c pe_non fun _ _ => .non) (pxa_cons (px_tup (pxa_cons (px_c pe_str fun _ _ => .str _) (pxa_cons (px_c pe_str fun _ _ => .str _) pxa_nil))) (pxa_cons (px_tup (pxa_cons (px_c pe_str fun _ _ => .str _) (pxa_cons (px_tup pxa_nil) pxa_nil))) (pxa_cons (px_tup (pxa_cons (px_c pe_int fun _ _ => .int _) pxa_nil)) (pxa_cons (px_tup (pxa_cons (px_c pe_str fun _ _ => .str _) (pxa_cons (px_c pe_non fun _ _ => .non) pxa_nil))) (pxa_cons (px_c pe_int fun _ _ => .int _) pxa_nil))))))))))))))))) (pxg_name 11 sc_law.nd rfl (.inr rfl)) (pxs_cons (pxs_set 9 sc_law.nd rfl (.inl rfl) (px_lst (pxa_cons (px_callL lets_no h_is_way mo_is_way (hr.mono (by decide)) (pxa_cons (px_var 11 (pv 11)) pxa_nil)) (pxa_cons (px_lam (k := 6) (prm := none) (tb := fun ed => dCallL (sp_need_way ca) (fun C fx e => ed C fx e.w) (dCons (dVar 11) dNil)) T.a__law_refused sc__law_refused rfl (.inl rfl) (ok__law_refused rfl T x1 x2 x3) mG_refused TB rfl (by rw [hT]; exact List.mem_cons_self) (by rw [hT]; exact fun p hp _ => by simp only [List.mem_cons, List.not_mem_nil, or_false] at hp; subst hp; rfl) hr (lamSc_by rfl) (fun _ => rfl) (fun s c2 dV doc pm ctv dv h0 h1 => by obtain ⟨rfl, rfl⟩ := h0 rfl; exact BindsTo.of_eq rfl) (fun A2 outer2 s2 F2 H2 E2 f2 c2 hr2 => (px_callL lets_lam h_need_way mo_need_way (hr2.mono (by decide)) (pxa_cons (px_var 11 (pv 11)) pxa_nil))) (mtb_call mo_need_way (dCons_mono (dVar_mono 11) dNil_mono))) (pxa_cons (px_lam (k := 6) (prm := (some "x")) (tb := fun ed => dCallL (sp_way_one ca) (fun C fx e => ed C fx e.w) (dCons (dVar 11) dNil)) T.a__law_refused sc__law_refused rfl (.inl rfl) (ok__law_refused rfl T x1 x2 x3) mG_refused TB rfl (by rw [hT]; exact List.mem_cons_self) (by rw [hT]; exact fun p hp _ => by simp only [List.mem_cons, List.not_mem_nil, or_false] at hp; subst hp; rfl) hr (lamSc_by rfl) ⟨_, _, _, rfl, rfl⟩ (fun s c2 dV doc pm ctv dv h0 h1 => by obtain ⟨t, v, rfl, rfl, ho⟩ := h1 rfl; exact BindsTo.of_defaults rfl ho rfl rfl rfl) (fun A2 outer2 s2 F2 H2 E2 f2 c2 hr2 => (px_callL lets_lam h_way_one mo_way_one (hr2.mono (by decide)) (pxa_cons (px_var 11 (pv 11)) pxa_nil))) (mtb_call mo_way_one (dCons_mono (dVar_mono 11) dNil_mono))) (pxa_cons (px_lam (k := 6) (prm := (some "y")) (tb := fun ed => dCallL (sp_is_way_number ca) (fun C fx e => ed C fx e.w) (dCons (dVar 11) (dCons (dC (.int 1)) dNil))) T.a__law_refused sc__law_refused rfl (.inl rfl) (ok__law_refused rfl T x1 x2 x3) mG_refused TB rfl (by rw [hT]; exact List.mem_cons_self) (by rw [hT]; exact fun p hp _ => by simp only [List.mem_cons, List.not_mem_nil, or_false] at hp; subst hp; rfl) hr (lamSc_by rfl) ⟨_, _, _, rfl, rfl⟩ (fun s c2 dV doc pm ctv dv h0 h1 => by obtain ⟨t, v, rfl, rfl, ho⟩ := h1 rfl; exact BindsTo.of_defaults rfl ho rfl rfl rfl) (fun A2 outer2 s2 F2 H2 E2 f2 c2 hr2 => (px_callL lets_lam h_is_way_number mo_is_way_number (hr2.mono (by decide)) (pxa_cons (px_var 11 (pv 11)) (pxa_cons (px_c pe_int fun _ _ => .int _) pxa_nil)))) (mtb_call mo_is_way_number (dCons_mono (dVar_mono 11) (dCons_mono (dC_mono _) dNil_mono)))) pxa_nil)))))) (pxs_cons (pxs_if (PXW.pt (pxw_or (pxt_not (pxt_val (px_callL lets_no h__law_like moLike (hr.mono (by decide)) (pxa_cons (px_var 9 (pv 9)) (pxa_cons (px_op od_add (px_lst (pxa_cons (px_c pe_bl fun _ _ => .bl _) pxa_nil)) (px_op od_mul (px_lst (pxa_cons (px_tup (pxa_cons (px_c pe_str fun _ _ => .str _) (pxa_cons (px_var 11 (pv 11)) pxa_nil))) pxa_nil)) (px_c pe_int fun _ _ => .int _))) pxa_nil))))) (pxw_or1 (pxt_not (pxt_val (px_callL lets_no h__law_like moLike (hr.mono (by decide)) (pxa_cons (px_lam (k := 6) (prm := none) (tb := fun ed => dCallL (sp_added_numbers ca) (fun C fx e => ed C fx e.w) (dCons (dVar 11) (dCons (dC (.str "?")) (dCons (dC .none) dNil)))) T.a__law_refused sc__law_refused rfl (.inl rfl) (ok__law_refused rfl T x1 x2 x3) mG_refused TB rfl (by rw [hT]; exact List.mem_cons_self) (by rw [hT]; exact fun p hp _ => by simp only [List.mem_cons, List.not_mem_nil, or_false] at hp; subst hp; rfl) hr (lamSc_by rfl) (fun _ => rfl) (fun s c2 dV doc pm ctv dv h0 h1 => by obtain ⟨rfl, rfl⟩ := h0 rfl; exact BindsTo.of_eq rfl) (fun A2 outer2 s2 F2 H2 E2 f2 c2 hr2 => (px_callL lets_lam h_added_numbers mo_added_numbers (hr2.mono (by decide)) (pxa_cons (px_var 11 (pv 11)) (pxa_cons (px_c pe_str fun _ _ => .str _) (pxa_cons (px_c pe_non fun _ _ => .non) pxa_nil))))) (mtb_call mo_added_numbers (dCons_mono (dVar_mono 11) (dCons_mono (dC_mono _) (dCons_mono (dC_mono _) dNil_mono))))) (pxa_cons (px_tup (pxa_cons (px_c pe_str fun _ _ => .str _) (pxa_cons (px_var 11 (pv 11)) pxa_nil))) pxa_nil)))))))) (pxs_cons (pxs_ret (px_c pe_bl fun _ _ => .bl _)) pxs_nil) pxs_nil) pxs_nil))) (pxs_cons (pxs_ret (px_c pe_bl fun _ _ => .bl _)) pxs_nil))), ?_⟩
  intro Q q
  refine ⟨12, rfl, by decide, ?_⟩
  refine for_inv (fun xs e => ∃ (s2 s3 s4 s5 s6 s7 s8 s9 s10 s11 s12 : Sl) (w : Nat), e = ⟨[.no, .d stTok, s2, s3, s4, s5, s6, s7, s8, s9, s10, s11, s12], w⟩ ∧ w + 100 * xs.length ≤ 1200) ?_ ?_ _ _ ⟨.no, .no, .no, .no, .no, .no, .no, .no, .no, .no, .no, 0, rfl, by rw [rangeD_len]; decide⟩
  · rintro x xs e K ⟨s2, s3, s4, s5, s6, s7, s8, s9, s10, s11, s12, w0, rfl, hw⟩ k
    simp only [List.length_cons] at hw
    dsimp only [gNm]
    repeat (first
      | (with_reducible refine k_seq ?_)
      | (with_reducible refine k_set ?_)
      | (with_reducible refine k_call ?_)
      | (with_reducible refine k_cons ?_)
      | (with_reducible refine k_nil ?_)
      | (with_reducible refine k_c ?_)
      | (with_reducible refine k_lst ?_)
      | (with_reducible refine k_tup ?_)
      | (with_reducible refine k_if ?_)
      | (with_reducible refine k_not ?_)
      | (with_reducible refine k_or ?_)
      | (with_reducible refine k_test ?_)
      | (with_reducible refine k_op ?_)
      | (with_reducible refine k_neg ?_)
      | (with_reducible refine k_asg ?_)
      | (with_reducible refine k_par ?_)
      | (with_reducible refine k_next ?_)
      | ((with_reducible refine k_varE ?_); (refine ⟨_, rfl, ?_⟩))
      | (with_reducible refine ⟨_, rfl, ?_⟩)
      | (with_reducible refine if_not_true ?_)
      | (with_reducible refine And.intro (sz_small (by simp)) ?_))
    try dsimp only
    refine a_dway (by omega) fun w1 W hw1 hW => ?_
    repeat (first
      | (with_reducible refine k_seq ?_)
      | (with_reducible refine k_set ?_)
      | (with_reducible refine k_call ?_)
      | (with_reducible refine k_cons ?_)
      | (with_reducible refine k_nil ?_)
      | (with_reducible refine k_c ?_)
      | (with_reducible refine k_lst ?_)
      | (with_reducible refine k_tup ?_)
      | (with_reducible refine k_if ?_)
      | (with_reducible refine k_not ?_)
      | (with_reducible refine k_or ?_)
      | (with_reducible refine k_test ?_)
      | (with_reducible refine k_op ?_)
      | (with_reducible refine k_neg ?_)
      | (with_reducible refine k_asg ?_)
      | (with_reducible refine k_par ?_)
      | (with_reducible refine k_next ?_)
      | ((with_reducible refine k_varE ?_); (refine ⟨_, rfl, ?_⟩))
      | (with_reducible refine ⟨_, rfl, ?_⟩)
      | (with_reducible refine if_not_true ?_)
      | (with_reducible refine And.intro (sz_small (by simp)) ?_))
    try dsimp only
    refine a_need hW ?_
    repeat (first
      | (with_reducible refine k_seq ?_)
      | (with_reducible refine k_set ?_)
      | (with_reducible refine k_call ?_)
      | (with_reducible refine k_cons ?_)
      | (with_reducible refine k_nil ?_)
      | (with_reducible refine k_c ?_)
      | (with_reducible refine k_lst ?_)
      | (with_reducible refine k_tup ?_)
      | (with_reducible refine k_if ?_)
      | (with_reducible refine k_not ?_)
      | (with_reducible refine k_or ?_)
      | (with_reducible refine k_test ?_)
      | (with_reducible refine k_op ?_)
      | (with_reducible refine k_neg ?_)
      | (with_reducible refine k_asg ?_)
      | (with_reducible refine k_par ?_)
      | (with_reducible refine k_next ?_)
      | ((with_reducible refine k_varE ?_); (refine ⟨_, rfl, ?_⟩))
      | (with_reducible refine ⟨_, rfl, ?_⟩)
      | (with_reducible refine if_not_true ?_)
      | (with_reducible refine And.intro (sz_small (by simp)) ?_))
    try dsimp only
    refine a_isway hW ?_
    repeat (first
      | (with_reducible refine k_seq ?_)
      | (with_reducible refine k_set ?_)
      | (with_reducible refine k_call ?_)
      | (with_reducible refine k_cons ?_)
      | (with_reducible refine k_nil ?_)
      | (with_reducible refine k_c ?_)
      | (with_reducible refine k_lst ?_)
      | (with_reducible refine k_tup ?_)
      | (with_reducible refine k_if ?_)
      | (with_reducible refine k_not ?_)
      | (with_reducible refine k_or ?_)
      | (with_reducible refine k_test ?_)
      | (with_reducible refine k_op ?_)
      | (with_reducible refine k_neg ?_)
      | (with_reducible refine k_asg ?_)
      | (with_reducible refine k_par ?_)
      | (with_reducible refine k_next ?_)
      | ((with_reducible refine k_varE ?_); (refine ⟨_, rfl, ?_⟩))
      | (with_reducible refine ⟨_, rfl, ?_⟩)
      | (with_reducible refine if_not_true ?_)
      | (with_reducible refine And.intro (sz_small (by simp)) ?_))
    try dsimp only
    refine a_one hW ?_
    repeat (first
      | (with_reducible refine k_seq ?_)
      | (with_reducible refine k_set ?_)
      | (with_reducible refine k_call ?_)
      | (with_reducible refine k_cons ?_)
      | (with_reducible refine k_nil ?_)
      | (with_reducible refine k_c ?_)
      | (with_reducible refine k_lst ?_)
      | (with_reducible refine k_tup ?_)
      | (with_reducible refine k_if ?_)
      | (with_reducible refine k_not ?_)
      | (with_reducible refine k_or ?_)
      | (with_reducible refine k_test ?_)
      | (with_reducible refine k_op ?_)
      | (with_reducible refine k_neg ?_)
      | (with_reducible refine k_asg ?_)
      | (with_reducible refine k_par ?_)
      | (with_reducible refine k_next ?_)
      | ((with_reducible refine k_varE ?_); (refine ⟨_, rfl, ?_⟩))
      | (with_reducible refine ⟨_, rfl, ?_⟩)
      | (with_reducible refine if_not_true ?_)
      | (with_reducible refine And.intro (sz_small (by simp)) ?_))
    try dsimp only
    refine a_unit hW ?_
    repeat (first
      | (with_reducible refine k_seq ?_)
      | (with_reducible refine k_set ?_)
      | (with_reducible refine k_call ?_)
      | (with_reducible refine k_cons ?_)
      | (with_reducible refine k_nil ?_)
      | (with_reducible refine k_c ?_)
      | (with_reducible refine k_lst ?_)
      | (with_reducible refine k_tup ?_)
      | (with_reducible refine k_if ?_)
      | (with_reducible refine k_not ?_)
      | (with_reducible refine k_or ?_)
      | (with_reducible refine k_test ?_)
      | (with_reducible refine k_op ?_)
      | (with_reducible refine k_neg ?_)
      | (with_reducible refine k_asg ?_)
      | (with_reducible refine k_par ?_)
      | (with_reducible refine k_next ?_)
      | ((with_reducible refine k_varE ?_); (refine ⟨_, rfl, ?_⟩))
      | (with_reducible refine ⟨_, rfl, ?_⟩)
      | (with_reducible refine if_not_true ?_)
      | (with_reducible refine And.intro (sz_small (by simp)) ?_))
    try dsimp only
    refine a_like (like_l (by simp) fun y hy => by
      simp only [List.mem_cons, List.not_mem_nil, or_false] at hy
      rcases hy with rfl | rfl | rfl
      · exact like_le (like_way W) (by decide)
      · exact like_b 3 true
      · exact like_le (like_one W) (by decide)) ?_
    repeat (first
      | (with_reducible refine k_seq ?_)
      | (with_reducible refine k_set ?_)
      | (with_reducible refine k_call ?_)
      | (with_reducible refine k_cons ?_)
      | (with_reducible refine k_nil ?_)
      | (with_reducible refine k_c ?_)
      | (with_reducible refine k_lst ?_)
      | (with_reducible refine k_tup ?_)
      | (with_reducible refine k_if ?_)
      | (with_reducible refine k_not ?_)
      | (with_reducible refine k_or ?_)
      | (with_reducible refine k_test ?_)
      | (with_reducible refine k_op ?_)
      | (with_reducible refine k_neg ?_)
      | (with_reducible refine k_asg ?_)
      | (with_reducible refine k_par ?_)
      | (with_reducible refine k_next ?_)
      | ((with_reducible refine k_varE ?_); (refine ⟨_, rfl, ?_⟩))
      | (with_reducible refine ⟨_, rfl, ?_⟩)
      | (with_reducible refine if_not_true ?_)
      | (with_reducible refine And.intro (sz_small (by simp)) ?_))
    try dsimp only
    refine a_num hW (by omega) fun w2 x1 hw2 ok1 b1 => ?_
    repeat (first
      | (with_reducible refine k_seq ?_)
      | (with_reducible refine k_set ?_)
      | (with_reducible refine k_call ?_)
      | (with_reducible refine k_cons ?_)
      | (with_reducible refine k_nil ?_)
      | (with_reducible refine k_c ?_)
      | (with_reducible refine k_lst ?_)
      | (with_reducible refine k_tup ?_)
      | (with_reducible refine k_if ?_)
      | (with_reducible refine k_not ?_)
      | (with_reducible refine k_or ?_)
      | (with_reducible refine k_test ?_)
      | (with_reducible refine k_op ?_)
      | (with_reducible refine k_neg ?_)
      | (with_reducible refine k_asg ?_)
      | (with_reducible refine k_par ?_)
      | (with_reducible refine k_next ?_)
      | ((with_reducible refine k_varE ?_); (refine ⟨_, rfl, ?_⟩))
      | (with_reducible refine ⟨_, rfl, ?_⟩)
      | (with_reducible refine if_not_true ?_)
      | (with_reducible refine And.intro (sz_small (by simp)) ?_))
    try dsimp only
    refine a_num hW (by omega) fun w3 x2 hw3 ok2 b2 => ?_
    repeat (first
      | (with_reducible refine k_seq ?_)
      | (with_reducible refine k_set ?_)
      | (with_reducible refine k_call ?_)
      | (with_reducible refine k_cons ?_)
      | (with_reducible refine k_nil ?_)
      | (with_reducible refine k_c ?_)
      | (with_reducible refine k_lst ?_)
      | (with_reducible refine k_tup ?_)
      | (with_reducible refine k_if ?_)
      | (with_reducible refine k_not ?_)
      | (with_reducible refine k_or ?_)
      | (with_reducible refine k_test ?_)
      | (with_reducible refine k_op ?_)
      | (with_reducible refine k_neg ?_)
      | (with_reducible refine k_asg ?_)
      | (with_reducible refine k_par ?_)
      | (with_reducible refine k_next ?_)
      | ((with_reducible refine k_varE ?_); (refine ⟨_, rfl, ?_⟩))
      | (with_reducible refine ⟨_, rfl, ?_⟩)
      | (with_reducible refine if_not_true ?_)
      | (with_reducible refine And.intro (sz_small (by simp)) ?_))
    try dsimp only
    refine a_num hW (by omega) fun w4 x3 hw4 ok3 b3 => ?_
    repeat (first
      | (with_reducible refine k_seq ?_)
      | (with_reducible refine k_set ?_)
      | (with_reducible refine k_call ?_)
      | (with_reducible refine k_cons ?_)
      | (with_reducible refine k_nil ?_)
      | (with_reducible refine k_c ?_)
      | (with_reducible refine k_lst ?_)
      | (with_reducible refine k_tup ?_)
      | (with_reducible refine k_if ?_)
      | (with_reducible refine k_not ?_)
      | (with_reducible refine k_or ?_)
      | (with_reducible refine k_test ?_)
      | (with_reducible refine k_op ?_)
      | (with_reducible refine k_neg ?_)
      | (with_reducible refine k_asg ?_)
      | (with_reducible refine k_par ?_)
      | (with_reducible refine k_next ?_)
      | ((with_reducible refine k_varE ?_); (refine ⟨_, rfl, ?_⟩))
      | (with_reducible refine ⟨_, rfl, ?_⟩)
      | (with_reducible refine if_not_true ?_)
      | (with_reducible refine And.intro (sz_small (by simp)) ?_))
    try dsimp only
    refine gTp3.mpr ?_
    have c1 := bd_le b1 (show 450 ≤ 2000 by decide)
    have c2 := bd_le b2 (show 450 ≤ 2000 by decide)
    have c3 := bd_le b3 (show 450 ≤ 2000 by decide)
    have okp := add_ok hW ok1 ok2
    have bp := bd_le (add_bd hW (by decide) ok1 ok2 b1 b2) (show 450 + 450 + 1 ≤ 2000 by decide)
    try dsimp only
    repeat (first
      | (with_reducible refine k_seq ?_)
      | (with_reducible refine k_set ?_)
      | (with_reducible refine k_call ?_)
      | (with_reducible refine k_cons ?_)
      | (with_reducible refine k_nil ?_)
      | (with_reducible refine k_c ?_)
      | (with_reducible refine k_lst ?_)
      | (with_reducible refine k_tup ?_)
      | (with_reducible refine k_if ?_)
      | (with_reducible refine k_not ?_)
      | (with_reducible refine k_or ?_)
      | (with_reducible refine k_test ?_)
      | (with_reducible refine k_op ?_)
      | (with_reducible refine k_neg ?_)
      | (with_reducible refine k_asg ?_)
      | (with_reducible refine k_par ?_)
      | (with_reducible refine k_next ?_)
      | ((with_reducible refine k_varE ?_); (refine ⟨_, rfl, ?_⟩))
      | (with_reducible refine ⟨_, rfl, ?_⟩)
      | (with_reducible refine if_not_true ?_)
      | (with_reducible refine And.intro (sz_small (by simp)) ?_))
    try dsimp only
    refine a_plus hW ok1 ok2 c1 c2 ?_
    repeat (first
      | (with_reducible refine k_seq ?_)
      | (with_reducible refine k_set ?_)
      | (with_reducible refine k_call ?_)
      | (with_reducible refine k_cons ?_)
      | (with_reducible refine k_nil ?_)
      | (with_reducible refine k_c ?_)
      | (with_reducible refine k_lst ?_)
      | (with_reducible refine k_tup ?_)
      | (with_reducible refine k_if ?_)
      | (with_reducible refine k_not ?_)
      | (with_reducible refine k_or ?_)
      | (with_reducible refine k_test ?_)
      | (with_reducible refine k_op ?_)
      | (with_reducible refine k_neg ?_)
      | (with_reducible refine k_asg ?_)
      | (with_reducible refine k_par ?_)
      | (with_reducible refine k_next ?_)
      | ((with_reducible refine k_varE ?_); (refine ⟨_, rfl, ?_⟩))
      | (with_reducible refine ⟨_, rfl, ?_⟩)
      | (with_reducible refine if_not_true ?_)
      | (with_reducible refine And.intro (sz_small (by simp)) ?_))
    try dsimp only
    refine a_times hW ok1 ok2 c1 c2 ?_
    repeat (first
      | (with_reducible refine k_seq ?_)
      | (with_reducible refine k_set ?_)
      | (with_reducible refine k_call ?_)
      | (with_reducible refine k_cons ?_)
      | (with_reducible refine k_nil ?_)
      | (with_reducible refine k_c ?_)
      | (with_reducible refine k_lst ?_)
      | (with_reducible refine k_tup ?_)
      | (with_reducible refine k_if ?_)
      | (with_reducible refine k_not ?_)
      | (with_reducible refine k_or ?_)
      | (with_reducible refine k_test ?_)
      | (with_reducible refine k_op ?_)
      | (with_reducible refine k_neg ?_)
      | (with_reducible refine k_asg ?_)
      | (with_reducible refine k_par ?_)
      | (with_reducible refine k_next ?_)
      | ((with_reducible refine k_varE ?_); (refine ⟨_, rfl, ?_⟩))
      | (with_reducible refine ⟨_, rfl, ?_⟩)
      | (with_reducible refine if_not_true ?_)
      | (with_reducible refine And.intro (sz_small (by simp)) ?_))
    try dsimp only
    refine ⟨_, _, rfl, ?_⟩
    try dsimp only
    repeat (first
      | (with_reducible refine k_seq ?_)
      | (with_reducible refine k_set ?_)
      | (with_reducible refine k_call ?_)
      | (with_reducible refine k_cons ?_)
      | (with_reducible refine k_nil ?_)
      | (with_reducible refine k_c ?_)
      | (with_reducible refine k_lst ?_)
      | (with_reducible refine k_tup ?_)
      | (with_reducible refine k_if ?_)
      | (with_reducible refine k_not ?_)
      | (with_reducible refine k_or ?_)
      | (with_reducible refine k_test ?_)
      | (with_reducible refine k_op ?_)
      | (with_reducible refine k_neg ?_)
      | (with_reducible refine k_asg ?_)
      | (with_reducible refine k_par ?_)
      | (with_reducible refine k_next ?_)
      | ((with_reducible refine k_varE ?_); (refine ⟨_, rfl, ?_⟩))
      | (with_reducible refine ⟨_, rfl, ?_⟩)
      | (with_reducible refine if_not_true ?_)
      | (with_reducible refine And.intro (sz_small (by simp)) ?_))
    try dsimp only
    have okm := mul_ok hW ok1 ok2
    have ok31 := mul_ok hW ok3 ok1
    have ok32 := mul_ok hW ok3 ok2
    have b31 := bd_le (mul_bd hW (by decide) ok3 ok1 b3 b1) (show 450 + 450 + 1 ≤ 2000 by decide)
    have b32 := bd_le (mul_bd hW (by decide) ok3 ok2 b3 b2) (show 450 + 450 + 1 ≤ 2000 by decide)
    have okq := add_ok hW ok2 ok3
    have bq := bd_le (add_bd hW (by decide) ok2 ok3 b2 b3) (show 450 + 450 + 1 ≤ 2000 by decide)
    have okpp := add_ok hW okp ok3
    refine a_add hW ok1 ok2 c1 c2 ?_
    repeat (first
      | (with_reducible refine k_seq ?_)
      | (with_reducible refine k_set ?_)
      | (with_reducible refine k_call ?_)
      | (with_reducible refine k_cons ?_)
      | (with_reducible refine k_nil ?_)
      | (with_reducible refine k_c ?_)
      | (with_reducible refine k_lst ?_)
      | (with_reducible refine k_tup ?_)
      | (with_reducible refine k_if ?_)
      | (with_reducible refine k_not ?_)
      | (with_reducible refine k_or ?_)
      | (with_reducible refine k_test ?_)
      | (with_reducible refine k_op ?_)
      | (with_reducible refine k_neg ?_)
      | (with_reducible refine k_asg ?_)
      | (with_reducible refine k_par ?_)
      | (with_reducible refine k_next ?_)
      | ((with_reducible refine k_varE ?_); (refine ⟨_, rfl, ?_⟩))
      | (with_reducible refine ⟨_, rfl, ?_⟩)
      | (with_reducible refine if_not_true ?_)
      | (with_reducible refine And.intro (sz_small (by simp)) ?_))
    try dsimp only
    refine a_add hW ok2 ok1 c2 c1 ?_
    rw [add_comm hW ok2 ok1]
    repeat (first
      | (with_reducible refine k_seq ?_)
      | (with_reducible refine k_set ?_)
      | (with_reducible refine k_call ?_)
      | (with_reducible refine k_cons ?_)
      | (with_reducible refine k_nil ?_)
      | (with_reducible refine k_c ?_)
      | (with_reducible refine k_lst ?_)
      | (with_reducible refine k_tup ?_)
      | (with_reducible refine k_if ?_)
      | (with_reducible refine k_not ?_)
      | (with_reducible refine k_or ?_)
      | (with_reducible refine k_test ?_)
      | (with_reducible refine k_op ?_)
      | (with_reducible refine k_neg ?_)
      | (with_reducible refine k_asg ?_)
      | (with_reducible refine k_par ?_)
      | (with_reducible refine k_next ?_)
      | ((with_reducible refine k_varE ?_); (refine ⟨_, rfl, ?_⟩))
      | (with_reducible refine ⟨_, rfl, ?_⟩)
      | (with_reducible refine if_not_true ?_)
      | (with_reducible refine And.intro (sz_small (by simp)) ?_))
    try dsimp only
    refine a_mul hW ok1 ok2 c1 c2 ?_
    repeat (first
      | (with_reducible refine k_seq ?_)
      | (with_reducible refine k_set ?_)
      | (with_reducible refine k_call ?_)
      | (with_reducible refine k_cons ?_)
      | (with_reducible refine k_nil ?_)
      | (with_reducible refine k_c ?_)
      | (with_reducible refine k_lst ?_)
      | (with_reducible refine k_tup ?_)
      | (with_reducible refine k_if ?_)
      | (with_reducible refine k_not ?_)
      | (with_reducible refine k_or ?_)
      | (with_reducible refine k_test ?_)
      | (with_reducible refine k_op ?_)
      | (with_reducible refine k_neg ?_)
      | (with_reducible refine k_asg ?_)
      | (with_reducible refine k_par ?_)
      | (with_reducible refine k_next ?_)
      | ((with_reducible refine k_varE ?_); (refine ⟨_, rfl, ?_⟩))
      | (with_reducible refine ⟨_, rfl, ?_⟩)
      | (with_reducible refine if_not_true ?_)
      | (with_reducible refine And.intro (sz_small (by simp)) ?_))
    try dsimp only
    refine a_mul hW ok2 ok1 c2 c1 ?_
    rw [mul_comm hW ok2 ok1]
    repeat (first
      | (with_reducible refine k_seq ?_)
      | (with_reducible refine k_set ?_)
      | (with_reducible refine k_call ?_)
      | (with_reducible refine k_cons ?_)
      | (with_reducible refine k_nil ?_)
      | (with_reducible refine k_c ?_)
      | (with_reducible refine k_lst ?_)
      | (with_reducible refine k_tup ?_)
      | (with_reducible refine k_if ?_)
      | (with_reducible refine k_not ?_)
      | (with_reducible refine k_or ?_)
      | (with_reducible refine k_test ?_)
      | (with_reducible refine k_op ?_)
      | (with_reducible refine k_neg ?_)
      | (with_reducible refine k_asg ?_)
      | (with_reducible refine k_par ?_)
      | (with_reducible refine k_next ?_)
      | ((with_reducible refine k_varE ?_); (refine ⟨_, rfl, ?_⟩))
      | (with_reducible refine ⟨_, rfl, ?_⟩)
      | (with_reducible refine if_not_true ?_)
      | (with_reducible refine And.intro (sz_small (by simp)) ?_))
    try dsimp only
    refine a_like (like_l (by simp) fun y hy => by
      simp only [List.mem_cons, List.not_mem_nil, or_false] at hy
      rcases hy with rfl | rfl | rfl | rfl
      · exact like_le (like_num okp) (by decide)
      · exact like_le (like_num okp) (by decide)
      · exact like_le (like_num okm) (by decide)
      · exact like_le (like_num okm) (by decide)) ?_
    repeat (first
      | (with_reducible refine k_seq ?_)
      | (with_reducible refine k_set ?_)
      | (with_reducible refine k_call ?_)
      | (with_reducible refine k_cons ?_)
      | (with_reducible refine k_nil ?_)
      | (with_reducible refine k_c ?_)
      | (with_reducible refine k_lst ?_)
      | (with_reducible refine k_tup ?_)
      | (with_reducible refine k_if ?_)
      | (with_reducible refine k_not ?_)
      | (with_reducible refine k_or ?_)
      | (with_reducible refine k_test ?_)
      | (with_reducible refine k_op ?_)
      | (with_reducible refine k_neg ?_)
      | (with_reducible refine k_asg ?_)
      | (with_reducible refine k_par ?_)
      | (with_reducible refine k_next ?_)
      | ((with_reducible refine k_varE ?_); (refine ⟨_, rfl, ?_⟩))
      | (with_reducible refine ⟨_, rfl, ?_⟩)
      | (with_reducible refine if_not_true ?_)
      | (with_reducible refine And.intro (sz_small (by simp)) ?_))
    try dsimp only
    refine a_mul hW ok3 okp c3 bp ?_
    repeat (first
      | (with_reducible refine k_seq ?_)
      | (with_reducible refine k_set ?_)
      | (with_reducible refine k_call ?_)
      | (with_reducible refine k_cons ?_)
      | (with_reducible refine k_nil ?_)
      | (with_reducible refine k_c ?_)
      | (with_reducible refine k_lst ?_)
      | (with_reducible refine k_tup ?_)
      | (with_reducible refine k_if ?_)
      | (with_reducible refine k_not ?_)
      | (with_reducible refine k_or ?_)
      | (with_reducible refine k_test ?_)
      | (with_reducible refine k_op ?_)
      | (with_reducible refine k_neg ?_)
      | (with_reducible refine k_asg ?_)
      | (with_reducible refine k_par ?_)
      | (with_reducible refine k_next ?_)
      | ((with_reducible refine k_varE ?_); (refine ⟨_, rfl, ?_⟩))
      | (with_reducible refine ⟨_, rfl, ?_⟩)
      | (with_reducible refine if_not_true ?_)
      | (with_reducible refine And.intro (sz_small (by simp)) ?_))
    try dsimp only
    refine a_mul hW ok3 ok1 c3 c1 ?_
    repeat (first
      | (with_reducible refine k_seq ?_)
      | (with_reducible refine k_set ?_)
      | (with_reducible refine k_call ?_)
      | (with_reducible refine k_cons ?_)
      | (with_reducible refine k_nil ?_)
      | (with_reducible refine k_c ?_)
      | (with_reducible refine k_lst ?_)
      | (with_reducible refine k_tup ?_)
      | (with_reducible refine k_if ?_)
      | (with_reducible refine k_not ?_)
      | (with_reducible refine k_or ?_)
      | (with_reducible refine k_test ?_)
      | (with_reducible refine k_op ?_)
      | (with_reducible refine k_neg ?_)
      | (with_reducible refine k_asg ?_)
      | (with_reducible refine k_par ?_)
      | (with_reducible refine k_next ?_)
      | ((with_reducible refine k_varE ?_); (refine ⟨_, rfl, ?_⟩))
      | (with_reducible refine ⟨_, rfl, ?_⟩)
      | (with_reducible refine if_not_true ?_)
      | (with_reducible refine And.intro (sz_small (by simp)) ?_))
    try dsimp only
    refine a_mul hW ok3 ok2 c3 c2 ?_
    repeat (first
      | (with_reducible refine k_seq ?_)
      | (with_reducible refine k_set ?_)
      | (with_reducible refine k_call ?_)
      | (with_reducible refine k_cons ?_)
      | (with_reducible refine k_nil ?_)
      | (with_reducible refine k_c ?_)
      | (with_reducible refine k_lst ?_)
      | (with_reducible refine k_tup ?_)
      | (with_reducible refine k_if ?_)
      | (with_reducible refine k_not ?_)
      | (with_reducible refine k_or ?_)
      | (with_reducible refine k_test ?_)
      | (with_reducible refine k_op ?_)
      | (with_reducible refine k_neg ?_)
      | (with_reducible refine k_asg ?_)
      | (with_reducible refine k_par ?_)
      | (with_reducible refine k_next ?_)
      | ((with_reducible refine k_varE ?_); (refine ⟨_, rfl, ?_⟩))
      | (with_reducible refine ⟨_, rfl, ?_⟩)
      | (with_reducible refine if_not_true ?_)
      | (with_reducible refine And.intro (sz_small (by simp)) ?_))
    try dsimp only
    refine a_add hW ok31 ok32 b31 b32 ?_
    rw [← distrib hW ok3 ok1 ok2]
    repeat (first
      | (with_reducible refine k_seq ?_)
      | (with_reducible refine k_set ?_)
      | (with_reducible refine k_call ?_)
      | (with_reducible refine k_cons ?_)
      | (with_reducible refine k_nil ?_)
      | (with_reducible refine k_c ?_)
      | (with_reducible refine k_lst ?_)
      | (with_reducible refine k_tup ?_)
      | (with_reducible refine k_if ?_)
      | (with_reducible refine k_not ?_)
      | (with_reducible refine k_or ?_)
      | (with_reducible refine k_test ?_)
      | (with_reducible refine k_op ?_)
      | (with_reducible refine k_neg ?_)
      | (with_reducible refine k_asg ?_)
      | (with_reducible refine k_par ?_)
      | (with_reducible refine k_next ?_)
      | ((with_reducible refine k_varE ?_); (refine ⟨_, rfl, ?_⟩))
      | (with_reducible refine ⟨_, rfl, ?_⟩)
      | (with_reducible refine if_not_true ?_)
      | (with_reducible refine And.intro (sz_small (by simp)) ?_))
    try dsimp only
    refine a_times hW ok3 okp c3 bp ?_
    repeat (first
      | (with_reducible refine k_seq ?_)
      | (with_reducible refine k_set ?_)
      | (with_reducible refine k_call ?_)
      | (with_reducible refine k_cons ?_)
      | (with_reducible refine k_nil ?_)
      | (with_reducible refine k_c ?_)
      | (with_reducible refine k_lst ?_)
      | (with_reducible refine k_tup ?_)
      | (with_reducible refine k_if ?_)
      | (with_reducible refine k_not ?_)
      | (with_reducible refine k_or ?_)
      | (with_reducible refine k_test ?_)
      | (with_reducible refine k_op ?_)
      | (with_reducible refine k_neg ?_)
      | (with_reducible refine k_asg ?_)
      | (with_reducible refine k_par ?_)
      | (with_reducible refine k_next ?_)
      | ((with_reducible refine k_varE ?_); (refine ⟨_, rfl, ?_⟩))
      | (with_reducible refine ⟨_, rfl, ?_⟩)
      | (with_reducible refine if_not_true ?_)
      | (with_reducible refine And.intro (sz_small (by simp)) ?_))
    try dsimp only
    refine ⟨⟨by decide, by decide, by rw [sizeLine_eq]; show 1 * 2 ≤ 16777216; decide⟩, ?_⟩
    rw [rep2]
    repeat (first
      | (with_reducible refine k_seq ?_)
      | (with_reducible refine k_set ?_)
      | (with_reducible refine k_call ?_)
      | (with_reducible refine k_cons ?_)
      | (with_reducible refine k_nil ?_)
      | (with_reducible refine k_c ?_)
      | (with_reducible refine k_lst ?_)
      | (with_reducible refine k_tup ?_)
      | (with_reducible refine k_if ?_)
      | (with_reducible refine k_not ?_)
      | (with_reducible refine k_or ?_)
      | (with_reducible refine k_test ?_)
      | (with_reducible refine k_op ?_)
      | (with_reducible refine k_neg ?_)
      | (with_reducible refine k_asg ?_)
      | (with_reducible refine k_par ?_)
      | (with_reducible refine k_next ?_)
      | ((with_reducible refine k_varE ?_); (refine ⟨_, rfl, ?_⟩))
      | (with_reducible refine ⟨_, rfl, ?_⟩)
      | (with_reducible refine if_not_true ?_)
      | (with_reducible refine And.intro (sz_small (by simp)) ?_))
    try dsimp only
    refine a_like (like_l (by simp) fun y hy => by
      simp only [List.mem_cons, List.not_mem_nil, or_false] at hy
      rcases hy with rfl | rfl
      · exact like_le (like_num (mul_ok hW ok3 okp)) (by decide)
      · exact like_le (like_num (mul_ok hW ok3 okp)) (by decide)) ?_
    repeat (first
      | (with_reducible refine k_seq ?_)
      | (with_reducible refine k_set ?_)
      | (with_reducible refine k_call ?_)
      | (with_reducible refine k_cons ?_)
      | (with_reducible refine k_nil ?_)
      | (with_reducible refine k_c ?_)
      | (with_reducible refine k_lst ?_)
      | (with_reducible refine k_tup ?_)
      | (with_reducible refine k_if ?_)
      | (with_reducible refine k_not ?_)
      | (with_reducible refine k_or ?_)
      | (with_reducible refine k_test ?_)
      | (with_reducible refine k_op ?_)
      | (with_reducible refine k_neg ?_)
      | (with_reducible refine k_asg ?_)
      | (with_reducible refine k_par ?_)
      | (with_reducible refine k_next ?_)
      | ((with_reducible refine k_varE ?_); (refine ⟨_, rfl, ?_⟩))
      | (with_reducible refine ⟨_, rfl, ?_⟩)
      | (with_reducible refine if_not_true ?_)
      | (with_reducible refine And.intro (sz_small (by simp)) ?_))
    try dsimp only
    refine a_add hW ok1 (.inl rfl) c1 trivial ?_
    rw [add_nr]
    repeat (first
      | (with_reducible refine k_seq ?_)
      | (with_reducible refine k_set ?_)
      | (with_reducible refine k_call ?_)
      | (with_reducible refine k_cons ?_)
      | (with_reducible refine k_nil ?_)
      | (with_reducible refine k_c ?_)
      | (with_reducible refine k_lst ?_)
      | (with_reducible refine k_tup ?_)
      | (with_reducible refine k_if ?_)
      | (with_reducible refine k_not ?_)
      | (with_reducible refine k_or ?_)
      | (with_reducible refine k_test ?_)
      | (with_reducible refine k_op ?_)
      | (with_reducible refine k_neg ?_)
      | (with_reducible refine k_asg ?_)
      | (with_reducible refine k_par ?_)
      | (with_reducible refine k_next ?_)
      | ((with_reducible refine k_varE ?_); (refine ⟨_, rfl, ?_⟩))
      | (with_reducible refine ⟨_, rfl, ?_⟩)
      | (with_reducible refine if_not_true ?_)
      | (with_reducible refine And.intro (sz_small (by simp)) ?_))
    try dsimp only
    refine a_mul hW ok1 (.inl rfl) c1 trivial ?_
    rw [mul_nr]
    repeat (first
      | (with_reducible refine k_seq ?_)
      | (with_reducible refine k_set ?_)
      | (with_reducible refine k_call ?_)
      | (with_reducible refine k_cons ?_)
      | (with_reducible refine k_nil ?_)
      | (with_reducible refine k_c ?_)
      | (with_reducible refine k_lst ?_)
      | (with_reducible refine k_tup ?_)
      | (with_reducible refine k_if ?_)
      | (with_reducible refine k_not ?_)
      | (with_reducible refine k_or ?_)
      | (with_reducible refine k_test ?_)
      | (with_reducible refine k_op ?_)
      | (with_reducible refine k_neg ?_)
      | (with_reducible refine k_asg ?_)
      | (with_reducible refine k_par ?_)
      | (with_reducible refine k_next ?_)
      | ((with_reducible refine k_varE ?_); (refine ⟨_, rfl, ?_⟩))
      | (with_reducible refine ⟨_, rfl, ?_⟩)
      | (with_reducible refine if_not_true ?_)
      | (with_reducible refine And.intro (sz_small (by simp)) ?_))
    try dsimp only
    refine a_one hW ?_
    repeat (first
      | (with_reducible refine k_seq ?_)
      | (with_reducible refine k_set ?_)
      | (with_reducible refine k_call ?_)
      | (with_reducible refine k_cons ?_)
      | (with_reducible refine k_nil ?_)
      | (with_reducible refine k_c ?_)
      | (with_reducible refine k_lst ?_)
      | (with_reducible refine k_tup ?_)
      | (with_reducible refine k_if ?_)
      | (with_reducible refine k_not ?_)
      | (with_reducible refine k_or ?_)
      | (with_reducible refine k_test ?_)
      | (with_reducible refine k_op ?_)
      | (with_reducible refine k_neg ?_)
      | (with_reducible refine k_asg ?_)
      | (with_reducible refine k_par ?_)
      | (with_reducible refine k_next ?_)
      | ((with_reducible refine k_varE ?_); (refine ⟨_, rfl, ?_⟩))
      | (with_reducible refine ⟨_, rfl, ?_⟩)
      | (with_reducible refine if_not_true ?_)
      | (with_reducible refine And.intro (sz_small (by simp)) ?_))
    try dsimp only
    refine a_mul hW ok1 (one_ok W hW) c1 (one_bd W) ?_
    rw [mul_unit hW ok1]
    repeat (first
      | (with_reducible refine k_seq ?_)
      | (with_reducible refine k_set ?_)
      | (with_reducible refine k_call ?_)
      | (with_reducible refine k_cons ?_)
      | (with_reducible refine k_nil ?_)
      | (with_reducible refine k_c ?_)
      | (with_reducible refine k_lst ?_)
      | (with_reducible refine k_tup ?_)
      | (with_reducible refine k_if ?_)
      | (with_reducible refine k_not ?_)
      | (with_reducible refine k_or ?_)
      | (with_reducible refine k_test ?_)
      | (with_reducible refine k_op ?_)
      | (with_reducible refine k_neg ?_)
      | (with_reducible refine k_asg ?_)
      | (with_reducible refine k_par ?_)
      | (with_reducible refine k_next ?_)
      | ((with_reducible refine k_varE ?_); (refine ⟨_, rfl, ?_⟩))
      | (with_reducible refine ⟨_, rfl, ?_⟩)
      | (with_reducible refine if_not_true ?_)
      | (with_reducible refine And.intro (sz_small (by simp)) ?_))
    try dsimp only
    refine a_like (like_l (by simp) fun y hy => by
      simp only [List.mem_cons, List.not_mem_nil, or_false] at hy
      rcases hy with rfl | rfl | rfl
      · exact like_le (like_num ok1) (by decide)
      · exact like_n 3
      · exact like_le (like_num ok1) (by decide)) ?_
    repeat (first
      | (with_reducible refine k_seq ?_)
      | (with_reducible refine k_set ?_)
      | (with_reducible refine k_call ?_)
      | (with_reducible refine k_cons ?_)
      | (with_reducible refine k_nil ?_)
      | (with_reducible refine k_c ?_)
      | (with_reducible refine k_lst ?_)
      | (with_reducible refine k_tup ?_)
      | (with_reducible refine k_if ?_)
      | (with_reducible refine k_not ?_)
      | (with_reducible refine k_or ?_)
      | (with_reducible refine k_test ?_)
      | (with_reducible refine k_op ?_)
      | (with_reducible refine k_neg ?_)
      | (with_reducible refine k_asg ?_)
      | (with_reducible refine k_par ?_)
      | (with_reducible refine k_next ?_)
      | ((with_reducible refine k_varE ?_); (refine ⟨_, rfl, ?_⟩))
      | (with_reducible refine ⟨_, rfl, ?_⟩)
      | (with_reducible refine if_not_true ?_)
      | (with_reducible refine And.intro (sz_small (by simp)) ?_))
    try dsimp only
    refine a_plus hW ok1 ok2 c1 c2 ?_
    repeat (first
      | (with_reducible refine k_seq ?_)
      | (with_reducible refine k_set ?_)
      | (with_reducible refine k_call ?_)
      | (with_reducible refine k_cons ?_)
      | (with_reducible refine k_nil ?_)
      | (with_reducible refine k_c ?_)
      | (with_reducible refine k_lst ?_)
      | (with_reducible refine k_tup ?_)
      | (with_reducible refine k_if ?_)
      | (with_reducible refine k_not ?_)
      | (with_reducible refine k_or ?_)
      | (with_reducible refine k_test ?_)
      | (with_reducible refine k_op ?_)
      | (with_reducible refine k_neg ?_)
      | (with_reducible refine k_asg ?_)
      | (with_reducible refine k_par ?_)
      | (with_reducible refine k_next ?_)
      | ((with_reducible refine k_varE ?_); (refine ⟨_, rfl, ?_⟩))
      | (with_reducible refine ⟨_, rfl, ?_⟩)
      | (with_reducible refine if_not_true ?_)
      | (with_reducible refine And.intro (sz_small (by simp)) ?_))
    try dsimp only
    refine a_plus hW okp ok3 bp c3 ?_
    repeat (first
      | (with_reducible refine k_seq ?_)
      | (with_reducible refine k_set ?_)
      | (with_reducible refine k_call ?_)
      | (with_reducible refine k_cons ?_)
      | (with_reducible refine k_nil ?_)
      | (with_reducible refine k_c ?_)
      | (with_reducible refine k_lst ?_)
      | (with_reducible refine k_tup ?_)
      | (with_reducible refine k_if ?_)
      | (with_reducible refine k_not ?_)
      | (with_reducible refine k_or ?_)
      | (with_reducible refine k_test ?_)
      | (with_reducible refine k_op ?_)
      | (with_reducible refine k_neg ?_)
      | (with_reducible refine k_asg ?_)
      | (with_reducible refine k_par ?_)
      | (with_reducible refine k_next ?_)
      | ((with_reducible refine k_varE ?_); (refine ⟨_, rfl, ?_⟩))
      | (with_reducible refine ⟨_, rfl, ?_⟩)
      | (with_reducible refine if_not_true ?_)
      | (with_reducible refine And.intro (sz_small (by simp)) ?_))
    try dsimp only
    refine a_plus hW ok2 ok3 c2 c3 ?_
    repeat (first
      | (with_reducible refine k_seq ?_)
      | (with_reducible refine k_set ?_)
      | (with_reducible refine k_call ?_)
      | (with_reducible refine k_cons ?_)
      | (with_reducible refine k_nil ?_)
      | (with_reducible refine k_c ?_)
      | (with_reducible refine k_lst ?_)
      | (with_reducible refine k_tup ?_)
      | (with_reducible refine k_if ?_)
      | (with_reducible refine k_not ?_)
      | (with_reducible refine k_or ?_)
      | (with_reducible refine k_test ?_)
      | (with_reducible refine k_op ?_)
      | (with_reducible refine k_neg ?_)
      | (with_reducible refine k_asg ?_)
      | (with_reducible refine k_par ?_)
      | (with_reducible refine k_next ?_)
      | ((with_reducible refine k_varE ?_); (refine ⟨_, rfl, ?_⟩))
      | (with_reducible refine ⟨_, rfl, ?_⟩)
      | (with_reducible refine if_not_true ?_)
      | (with_reducible refine And.intro (sz_small (by simp)) ?_))
    try dsimp only
    refine a_plus hW ok1 okq c1 bq ?_
    rw [← add_assoc hW ok1 ok2 ok3]
    repeat (first
      | (with_reducible refine k_seq ?_)
      | (with_reducible refine k_set ?_)
      | (with_reducible refine k_call ?_)
      | (with_reducible refine k_cons ?_)
      | (with_reducible refine k_nil ?_)
      | (with_reducible refine k_c ?_)
      | (with_reducible refine k_lst ?_)
      | (with_reducible refine k_tup ?_)
      | (with_reducible refine k_if ?_)
      | (with_reducible refine k_not ?_)
      | (with_reducible refine k_or ?_)
      | (with_reducible refine k_test ?_)
      | (with_reducible refine k_op ?_)
      | (with_reducible refine k_neg ?_)
      | (with_reducible refine k_asg ?_)
      | (with_reducible refine k_par ?_)
      | (with_reducible refine k_next ?_)
      | ((with_reducible refine k_varE ?_); (refine ⟨_, rfl, ?_⟩))
      | (with_reducible refine ⟨_, rfl, ?_⟩)
      | (with_reducible refine if_not_true ?_)
      | (with_reducible refine And.intro (sz_small (by simp)) ?_))
    try dsimp only
    refine ⟨shp_num okpp, shp_num okpp, ?_⟩
    rw [eqv_num okpp]
    repeat (first
      | (with_reducible refine k_seq ?_)
      | (with_reducible refine k_set ?_)
      | (with_reducible refine k_call ?_)
      | (with_reducible refine k_cons ?_)
      | (with_reducible refine k_nil ?_)
      | (with_reducible refine k_c ?_)
      | (with_reducible refine k_lst ?_)
      | (with_reducible refine k_tup ?_)
      | (with_reducible refine k_if ?_)
      | (with_reducible refine k_not ?_)
      | (with_reducible refine k_or ?_)
      | (with_reducible refine k_test ?_)
      | (with_reducible refine k_op ?_)
      | (with_reducible refine k_neg ?_)
      | (with_reducible refine k_asg ?_)
      | (with_reducible refine k_par ?_)
      | (with_reducible refine k_next ?_)
      | ((with_reducible refine k_varE ?_); (refine ⟨_, rfl, ?_⟩))
      | (with_reducible refine ⟨_, rfl, ?_⟩)
      | (with_reducible refine if_not_true ?_)
      | (with_reducible refine And.intro (sz_small (by simp)) ?_))
    try dsimp only
    simp only [if_true, Bool.not_true, Bool.false_eq_true, if_false]
    repeat (first
      | (with_reducible refine k_seq ?_)
      | (with_reducible refine k_set ?_)
      | (with_reducible refine k_call ?_)
      | (with_reducible refine k_cons ?_)
      | (with_reducible refine k_nil ?_)
      | (with_reducible refine k_c ?_)
      | (with_reducible refine k_lst ?_)
      | (with_reducible refine k_tup ?_)
      | (with_reducible refine k_if ?_)
      | (with_reducible refine k_not ?_)
      | (with_reducible refine k_or ?_)
      | (with_reducible refine k_test ?_)
      | (with_reducible refine k_op ?_)
      | (with_reducible refine k_neg ?_)
      | (with_reducible refine k_asg ?_)
      | (with_reducible refine k_par ?_)
      | (with_reducible refine k_next ?_)
      | ((with_reducible refine k_varE ?_); (refine ⟨_, rfl, ?_⟩))
      | (with_reducible refine ⟨_, rfl, ?_⟩)
      | (with_reducible refine if_not_true ?_)
      | (with_reducible refine And.intro (sz_small (by simp)) ?_))
    try dsimp only
    refine a_last fun od hod => ?_
    repeat (first
      | (with_reducible refine k_seq ?_)
      | (with_reducible refine k_set ?_)
      | (with_reducible refine k_call ?_)
      | (with_reducible refine k_cons ?_)
      | (with_reducible refine k_nil ?_)
      | (with_reducible refine k_c ?_)
      | (with_reducible refine k_lst ?_)
      | (with_reducible refine k_tup ?_)
      | (with_reducible refine k_if ?_)
      | (with_reducible refine k_not ?_)
      | (with_reducible refine k_or ?_)
      | (with_reducible refine k_test ?_)
      | (with_reducible refine k_op ?_)
      | (with_reducible refine k_neg ?_)
      | (with_reducible refine k_asg ?_)
      | (with_reducible refine k_par ?_)
      | (with_reducible refine k_next ?_)
      | ((with_reducible refine k_varE ?_); (refine ⟨_, rfl, ?_⟩))
      | (with_reducible refine ⟨_, rfl, ?_⟩)
      | (with_reducible refine if_not_true ?_)
      | (with_reducible refine And.intro (sz_small (by simp)) ?_))
    try dsimp only
    refine a_vast (by omega) fun w5 k5 hw5 p5 q5 => ?_
    repeat (first
      | (with_reducible refine k_seq ?_)
      | (with_reducible refine k_set ?_)
      | (with_reducible refine k_call ?_)
      | (with_reducible refine k_cons ?_)
      | (with_reducible refine k_nil ?_)
      | (with_reducible refine k_c ?_)
      | (with_reducible refine k_lst ?_)
      | (with_reducible refine k_tup ?_)
      | (with_reducible refine k_if ?_)
      | (with_reducible refine k_not ?_)
      | (with_reducible refine k_or ?_)
      | (with_reducible refine k_test ?_)
      | (with_reducible refine k_op ?_)
      | (with_reducible refine k_neg ?_)
      | (with_reducible refine k_asg ?_)
      | (with_reducible refine k_par ?_)
      | (with_reducible refine k_next ?_)
      | ((with_reducible refine k_varE ?_); (refine ⟨_, rfl, ?_⟩))
      | (with_reducible refine ⟨_, rfl, ?_⟩)
      | (with_reducible refine if_not_true ?_)
      | (with_reducible refine And.intro (sz_small (by simp)) ?_))
    try dsimp only
    refine a_vast (by omega) fun w6 k6 hw6 p6 q6 => ?_
    dsimp only [rSubD]
    repeat (first
      | (with_reducible refine k_seq ?_)
      | (with_reducible refine k_set ?_)
      | (with_reducible refine k_call ?_)
      | (with_reducible refine k_cons ?_)
      | (with_reducible refine k_nil ?_)
      | (with_reducible refine k_c ?_)
      | (with_reducible refine k_lst ?_)
      | (with_reducible refine k_tup ?_)
      | (with_reducible refine k_if ?_)
      | (with_reducible refine k_not ?_)
      | (with_reducible refine k_or ?_)
      | (with_reducible refine k_test ?_)
      | (with_reducible refine k_op ?_)
      | (with_reducible refine k_neg ?_)
      | (with_reducible refine k_asg ?_)
      | (with_reducible refine k_par ?_)
      | (with_reducible refine k_next ?_)
      | ((with_reducible refine k_varE ?_); (refine ⟨_, rfl, ?_⟩))
      | (with_reducible refine ⟨_, rfl, ?_⟩)
      | (with_reducible refine if_not_true ?_)
      | (with_reducible refine And.intro (sz_small (by simp)) ?_))
    try dsimp only
    refine a_vast (by omega) fun w7 k7 hw7 p7 q7 => ?_
    refine ⟨log_mul (nb_le (A := 10) (by decide) (by decide)) (nb_le q7 (by decide)), ?_⟩
    repeat (first
      | (with_reducible refine k_seq ?_)
      | (with_reducible refine k_set ?_)
      | (with_reducible refine k_call ?_)
      | (with_reducible refine k_cons ?_)
      | (with_reducible refine k_nil ?_)
      | (with_reducible refine k_c ?_)
      | (with_reducible refine k_lst ?_)
      | (with_reducible refine k_tup ?_)
      | (with_reducible refine k_if ?_)
      | (with_reducible refine k_not ?_)
      | (with_reducible refine k_or ?_)
      | (with_reducible refine k_test ?_)
      | (with_reducible refine k_op ?_)
      | (with_reducible refine k_neg ?_)
      | (with_reducible refine k_asg ?_)
      | (with_reducible refine k_par ?_)
      | (with_reducible refine k_next ?_)
      | ((with_reducible refine k_varE ?_); (refine ⟨_, rfl, ?_⟩))
      | (with_reducible refine ⟨_, rfl, ?_⟩)
      | (with_reducible refine if_not_true ?_)
      | (with_reducible refine And.intro (sz_small (by simp)) ?_))
    try dsimp only
    refine ⟨_, .inl rfl, ?_⟩
    refine for_inv (fun xs e => (∃ s2 s5 s6 s7 s8 s9 s10 s11 s12 : Sl, e = ⟨[.no, .d stTok, s2, .d W.d, .d x1, s5, s6, s7, s8, s9, s10, s11, s12], w7⟩) ∧ ∀ y ∈ xs, OddOk y) ?_ ?_ _ _ ⟨⟨_, _, _, _, _, _, _, _, _, rfl⟩, fun y hy => ?_⟩
    · rintro y ys e K' ⟨⟨s2, s5, s6, s7, s8, s9, s10, s11, s12, rfl⟩, hy⟩ kk
      have ho := hy y List.mem_cons_self
      have lt : likeN 4 (.tuple [.str "number", y]) := like_p so_a ho.like
      dsimp only [gNm]
      repeat (first
        | (with_reducible refine k_seq ?_)
        | (with_reducible refine k_set ?_)
        | (with_reducible refine k_call ?_)
        | (with_reducible refine k_cons ?_)
        | (with_reducible refine k_nil ?_)
        | (with_reducible refine k_c ?_)
        | (with_reducible refine k_lst ?_)
        | (with_reducible refine k_tup ?_)
        | (with_reducible refine k_if ?_)
        | (with_reducible refine k_not ?_)
        | (with_reducible refine k_or ?_)
        | (with_reducible refine k_test ?_)
        | (with_reducible refine k_op ?_)
        | (with_reducible refine k_neg ?_)
        | (with_reducible refine k_asg ?_)
        | (with_reducible refine k_par ?_)
        | (with_reducible refine k_next ?_)
        | (with_reducible refine k_give ?_)
        | (with_reducible refine k_for ?_)
        | (with_reducible refine k_seqOf ?_)
        | (with_reducible refine k_ret ?_)
        | ((with_reducible refine k_varE ?_); (refine ⟨_, rfl, ?_⟩))
        | (with_reducible refine ⟨_, rfl, ?_⟩)
        | (with_reducible refine if_not_true ?_)
        | (with_reducible refine And.intro (sz_small (by simp)) ?_))
      try dsimp only
      refine a_isnum hW ho.shp ho.bits ?_
      repeat (first
        | (with_reducible refine k_seq ?_)
        | (with_reducible refine k_set ?_)
        | (with_reducible refine k_call ?_)
        | (with_reducible refine k_cons ?_)
        | (with_reducible refine k_nil ?_)
        | (with_reducible refine k_c ?_)
        | (with_reducible refine k_lst ?_)
        | (with_reducible refine k_tup ?_)
        | (with_reducible refine k_if ?_)
        | (with_reducible refine k_not ?_)
        | (with_reducible refine k_or ?_)
        | (with_reducible refine k_test ?_)
        | (with_reducible refine k_op ?_)
        | (with_reducible refine k_neg ?_)
        | (with_reducible refine k_asg ?_)
        | (with_reducible refine k_par ?_)
        | (with_reducible refine k_next ?_)
        | (with_reducible refine k_give ?_)
        | (with_reducible refine k_for ?_)
        | (with_reducible refine k_seqOf ?_)
        | (with_reducible refine k_ret ?_)
        | ((with_reducible refine k_varE ?_); (refine ⟨_, rfl, ?_⟩))
        | (with_reducible refine ⟨_, rfl, ?_⟩)
        | (with_reducible refine if_not_true ?_)
        | (with_reducible refine And.intro (sz_small (by simp)) ?_))
      try dsimp only
      refine a_iwn hW ho.shp ?_
      repeat (first
        | (with_reducible refine k_seq ?_)
        | (with_reducible refine k_set ?_)
        | (with_reducible refine k_call ?_)
        | (with_reducible refine k_cons ?_)
        | (with_reducible refine k_nil ?_)
        | (with_reducible refine k_c ?_)
        | (with_reducible refine k_lst ?_)
        | (with_reducible refine k_tup ?_)
        | (with_reducible refine k_if ?_)
        | (with_reducible refine k_not ?_)
        | (with_reducible refine k_or ?_)
        | (with_reducible refine k_test ?_)
        | (with_reducible refine k_op ?_)
        | (with_reducible refine k_neg ?_)
        | (with_reducible refine k_asg ?_)
        | (with_reducible refine k_par ?_)
        | (with_reducible refine k_next ?_)
        | (with_reducible refine k_give ?_)
        | (with_reducible refine k_for ?_)
        | (with_reducible refine k_seqOf ?_)
        | (with_reducible refine k_ret ?_)
        | ((with_reducible refine k_varE ?_); (refine ⟨_, rfl, ?_⟩))
        | (with_reducible refine ⟨_, rfl, ?_⟩)
        | (with_reducible refine if_not_true ?_)
        | (with_reducible refine And.intro (sz_small (by simp)) ?_))
      try dsimp only
      refine a_like (like_b 4 _) ?_
      repeat (first
        | (with_reducible refine k_seq ?_)
        | (with_reducible refine k_set ?_)
        | (with_reducible refine k_call ?_)
        | (with_reducible refine k_cons ?_)
        | (with_reducible refine k_nil ?_)
        | (with_reducible refine k_c ?_)
        | (with_reducible refine k_lst ?_)
        | (with_reducible refine k_tup ?_)
        | (with_reducible refine k_if ?_)
        | (with_reducible refine k_not ?_)
        | (with_reducible refine k_or ?_)
        | (with_reducible refine k_test ?_)
        | (with_reducible refine k_op ?_)
        | (with_reducible refine k_neg ?_)
        | (with_reducible refine k_asg ?_)
        | (with_reducible refine k_par ?_)
        | (with_reducible refine k_next ?_)
        | (with_reducible refine k_give ?_)
        | (with_reducible refine k_for ?_)
        | (with_reducible refine k_seqOf ?_)
        | (with_reducible refine k_ret ?_)
        | ((with_reducible refine k_varE ?_); (refine ⟨_, rfl, ?_⟩))
        | (with_reducible refine ⟨_, rfl, ?_⟩)
        | (with_reducible refine if_not_true ?_)
        | (with_reducible refine And.intro (sz_small (by simp)) ?_))
      try dsimp only
      by_cases hn : isNum W y = true
      · simp only [hn, Bool.not_true, Bool.false_eq_true, if_false]
        repeat (first
          | (with_reducible refine k_seq ?_)
          | (with_reducible refine k_set ?_)
          | (with_reducible refine k_call ?_)
          | (with_reducible refine k_cons ?_)
          | (with_reducible refine k_nil ?_)
          | (with_reducible refine k_c ?_)
          | (with_reducible refine k_lst ?_)
          | (with_reducible refine k_tup ?_)
          | (with_reducible refine k_if ?_)
          | (with_reducible refine k_not ?_)
          | (with_reducible refine k_or ?_)
          | (with_reducible refine k_test ?_)
          | (with_reducible refine k_op ?_)
          | (with_reducible refine k_neg ?_)
          | (with_reducible refine k_asg ?_)
          | (with_reducible refine k_par ?_)
          | (with_reducible refine k_next ?_)
          | (with_reducible refine k_give ?_)
          | (with_reducible refine k_for ?_)
          | (with_reducible refine k_seqOf ?_)
          | (with_reducible refine k_ret ?_)
          | ((with_reducible refine k_varE ?_); (refine ⟨_, rfl, ?_⟩))
          | (with_reducible refine ⟨_, rfl, ?_⟩)
          | (with_reducible refine if_not_true ?_)
          | (with_reducible refine And.intro (sz_small (by simp)) ?_))
        try dsimp only
        exact kk _ ⟨⟨_, _, _, _, _, _, _, _, _, rfl⟩, fun z hz => hy z (List.mem_cons_of_mem _ hz)⟩
      · have hn' : isNum W y = false := by simpa using hn
        have no : okB W y = false := by
          unfold okB
          rw [ho.non, hn']
          rfl
        simp only [hn', Bool.not_false, if_true]
        repeat (first
          | (with_reducible refine k_seq ?_)
          | (with_reducible refine k_set ?_)
          | (with_reducible refine k_call ?_)
          | (with_reducible refine k_cons ?_)
          | (with_reducible refine k_nil ?_)
          | (with_reducible refine k_c ?_)
          | (with_reducible refine k_lst ?_)
          | (with_reducible refine k_tup ?_)
          | (with_reducible refine k_if ?_)
          | (with_reducible refine k_not ?_)
          | (with_reducible refine k_or ?_)
          | (with_reducible refine k_test ?_)
          | (with_reducible refine k_op ?_)
          | (with_reducible refine k_neg ?_)
          | (with_reducible refine k_asg ?_)
          | (with_reducible refine k_par ?_)
          | (with_reducible refine k_next ?_)
          | (with_reducible refine k_give ?_)
          | (with_reducible refine k_for ?_)
          | (with_reducible refine k_seqOf ?_)
          | (with_reducible refine k_ret ?_)
          | ((with_reducible refine k_varE ?_); (refine ⟨_, rfl, ?_⟩))
          | (with_reducible refine ⟨_, rfl, ?_⟩)
          | (with_reducible refine if_not_true ?_)
          | (with_reducible refine And.intro (sz_small (by simp)) ?_))
        try dsimp only
        refine a_ref1 hW ho.shp (shp_num ok1) no (.inr ⟨rfl, _, rfl, ?_⟩)
        repeat (first
          | (with_reducible refine k_seq ?_)
          | (with_reducible refine k_set ?_)
          | (with_reducible refine k_call ?_)
          | (with_reducible refine k_cons ?_)
          | (with_reducible refine k_nil ?_)
          | (with_reducible refine k_c ?_)
          | (with_reducible refine k_lst ?_)
          | (with_reducible refine k_tup ?_)
          | (with_reducible refine k_if ?_)
          | (with_reducible refine k_not ?_)
          | (with_reducible refine k_or ?_)
          | (with_reducible refine k_test ?_)
          | (with_reducible refine k_op ?_)
          | (with_reducible refine k_neg ?_)
          | (with_reducible refine k_asg ?_)
          | (with_reducible refine k_par ?_)
          | (with_reducible refine k_next ?_)
          | (with_reducible refine k_give ?_)
          | (with_reducible refine k_for ?_)
          | (with_reducible refine k_seqOf ?_)
          | (with_reducible refine k_ret ?_)
          | ((with_reducible refine k_varE ?_); (refine ⟨_, rfl, ?_⟩))
          | (with_reducible refine ⟨_, rfl, ?_⟩)
          | (with_reducible refine if_not_true ?_)
          | (with_reducible refine And.intro (sz_small (by simp)) ?_))
        try dsimp only
        refine a_ref2 hW ok1 ho.shp no (.inr ⟨rfl, _, rfl, ?_⟩)
        repeat (first
          | (with_reducible refine k_seq ?_)
          | (with_reducible refine k_set ?_)
          | (with_reducible refine k_call ?_)
          | (with_reducible refine k_cons ?_)
          | (with_reducible refine k_nil ?_)
          | (with_reducible refine k_c ?_)
          | (with_reducible refine k_lst ?_)
          | (with_reducible refine k_tup ?_)
          | (with_reducible refine k_if ?_)
          | (with_reducible refine k_not ?_)
          | (with_reducible refine k_or ?_)
          | (with_reducible refine k_test ?_)
          | (with_reducible refine k_op ?_)
          | (with_reducible refine k_neg ?_)
          | (with_reducible refine k_asg ?_)
          | (with_reducible refine k_par ?_)
          | (with_reducible refine k_next ?_)
          | (with_reducible refine k_give ?_)
          | (with_reducible refine k_for ?_)
          | (with_reducible refine k_seqOf ?_)
          | (with_reducible refine k_ret ?_)
          | ((with_reducible refine k_varE ?_); (refine ⟨_, rfl, ?_⟩))
          | (with_reducible refine ⟨_, rfl, ?_⟩)
          | (with_reducible refine if_not_true ?_)
          | (with_reducible refine And.intro (sz_small (by simp)) ?_))
        try dsimp only
        refine ⟨⟨by decide, by decide, by rw [sizeLine_eq]; show 1 * 2 ≤ 16777216; decide⟩, ?_⟩
        rw [rep2]
        repeat (first
          | (with_reducible refine k_seq ?_)
          | (with_reducible refine k_set ?_)
          | (with_reducible refine k_call ?_)
          | (with_reducible refine k_cons ?_)
          | (with_reducible refine k_nil ?_)
          | (with_reducible refine k_c ?_)
          | (with_reducible refine k_lst ?_)
          | (with_reducible refine k_tup ?_)
          | (with_reducible refine k_if ?_)
          | (with_reducible refine k_not ?_)
          | (with_reducible refine k_or ?_)
          | (with_reducible refine k_test ?_)
          | (with_reducible refine k_op ?_)
          | (with_reducible refine k_neg ?_)
          | (with_reducible refine k_asg ?_)
          | (with_reducible refine k_par ?_)
          | (with_reducible refine k_next ?_)
          | (with_reducible refine k_give ?_)
          | (with_reducible refine k_for ?_)
          | (with_reducible refine k_seqOf ?_)
          | (with_reducible refine k_ret ?_)
          | ((with_reducible refine k_varE ?_); (refine ⟨_, rfl, ?_⟩))
          | (with_reducible refine ⟨_, rfl, ?_⟩)
          | (with_reducible refine if_not_true ?_)
          | (with_reducible refine And.intro (sz_small (by simp)) ?_))
        try dsimp only
        refine a_like (like_l (by simp) fun z hz => by
          simp only [List.mem_cons, List.not_mem_nil, or_false] at hz
          rcases hz with rfl | rfl <;> exact lt) ?_
        repeat (first
          | (with_reducible refine k_seq ?_)
          | (with_reducible refine k_set ?_)
          | (with_reducible refine k_call ?_)
          | (with_reducible refine k_cons ?_)
          | (with_reducible refine k_nil ?_)
          | (with_reducible refine k_c ?_)
          | (with_reducible refine k_lst ?_)
          | (with_reducible refine k_tup ?_)
          | (with_reducible refine k_if ?_)
          | (with_reducible refine k_not ?_)
          | (with_reducible refine k_or ?_)
          | (with_reducible refine k_test ?_)
          | (with_reducible refine k_op ?_)
          | (with_reducible refine k_neg ?_)
          | (with_reducible refine k_asg ?_)
          | (with_reducible refine k_par ?_)
          | (with_reducible refine k_next ?_)
          | (with_reducible refine k_give ?_)
          | (with_reducible refine k_for ?_)
          | (with_reducible refine k_seqOf ?_)
          | (with_reducible refine k_ret ?_)
          | ((with_reducible refine k_varE ?_); (refine ⟨_, rfl, ?_⟩))
          | (with_reducible refine ⟨_, rfl, ?_⟩)
          | (with_reducible refine if_not_true ?_)
          | (with_reducible refine And.intro (sz_small (by simp)) ?_))
        try dsimp only
        refine a_ref1 hW ho.shp shp_q no (.inr ⟨rfl, _, rfl, ?_⟩)
        repeat (first
          | (with_reducible refine k_seq ?_)
          | (with_reducible refine k_set ?_)
          | (with_reducible refine k_call ?_)
          | (with_reducible refine k_cons ?_)
          | (with_reducible refine k_nil ?_)
          | (with_reducible refine k_c ?_)
          | (with_reducible refine k_lst ?_)
          | (with_reducible refine k_tup ?_)
          | (with_reducible refine k_if ?_)
          | (with_reducible refine k_not ?_)
          | (with_reducible refine k_or ?_)
          | (with_reducible refine k_test ?_)
          | (with_reducible refine k_op ?_)
          | (with_reducible refine k_neg ?_)
          | (with_reducible refine k_asg ?_)
          | (with_reducible refine k_par ?_)
          | (with_reducible refine k_next ?_)
          | (with_reducible refine k_give ?_)
          | (with_reducible refine k_for ?_)
          | (with_reducible refine k_seqOf ?_)
          | (with_reducible refine k_ret ?_)
          | ((with_reducible refine k_varE ?_); (refine ⟨_, rfl, ?_⟩))
          | (with_reducible refine ⟨_, rfl, ?_⟩)
          | (with_reducible refine if_not_true ?_)
          | (with_reducible refine And.intro (sz_small (by simp)) ?_))
        try dsimp only
        refine a_like (like_le lt (by decide)) ?_
        repeat (first
          | (with_reducible refine k_seq ?_)
          | (with_reducible refine k_set ?_)
          | (with_reducible refine k_call ?_)
          | (with_reducible refine k_cons ?_)
          | (with_reducible refine k_nil ?_)
          | (with_reducible refine k_c ?_)
          | (with_reducible refine k_lst ?_)
          | (with_reducible refine k_tup ?_)
          | (with_reducible refine k_if ?_)
          | (with_reducible refine k_not ?_)
          | (with_reducible refine k_or ?_)
          | (with_reducible refine k_test ?_)
          | (with_reducible refine k_op ?_)
          | (with_reducible refine k_neg ?_)
          | (with_reducible refine k_asg ?_)
          | (with_reducible refine k_par ?_)
          | (with_reducible refine k_next ?_)
          | (with_reducible refine k_give ?_)
          | (with_reducible refine k_for ?_)
          | (with_reducible refine k_seqOf ?_)
          | (with_reducible refine k_ret ?_)
          | ((with_reducible refine k_varE ?_); (refine ⟨_, rfl, ?_⟩))
          | (with_reducible refine ⟨_, rfl, ?_⟩)
          | (with_reducible refine if_not_true ?_)
          | (with_reducible refine And.intro (sz_small (by simp)) ?_))
        try dsimp only
        exact kk _ ⟨⟨_, _, _, _, _, _, _, _, _, rfl⟩, fun z hz => hy z (List.mem_cons_of_mem _ hz)⟩
    · rintro e ⟨⟨s2, s5, s6, s7, s8, s9, s10, s11, s12, rfl⟩, _⟩
      try dsimp only
      repeat (first
        | (with_reducible refine k_seq ?_)
        | (with_reducible refine k_set ?_)
        | (with_reducible refine k_call ?_)
        | (with_reducible refine k_cons ?_)
        | (with_reducible refine k_nil ?_)
        | (with_reducible refine k_c ?_)
        | (with_reducible refine k_lst ?_)
        | (with_reducible refine k_tup ?_)
        | (with_reducible refine k_if ?_)
        | (with_reducible refine k_not ?_)
        | (with_reducible refine k_or ?_)
        | (with_reducible refine k_test ?_)
        | (with_reducible refine k_op ?_)
        | (with_reducible refine k_neg ?_)
        | (with_reducible refine k_asg ?_)
        | (with_reducible refine k_par ?_)
        | (with_reducible refine k_next ?_)
        | (with_reducible refine k_give ?_)
        | (with_reducible refine k_for ?_)
        | (with_reducible refine k_seqOf ?_)
        | (with_reducible refine k_ret ?_)
        | ((with_reducible refine k_varE ?_); (refine ⟨_, rfl, ?_⟩))
        | (with_reducible refine ⟨_, rfl, ?_⟩)
        | (with_reducible refine if_not_true ?_)
        | (with_reducible refine And.intro (sz_small (by simp)) ?_))
      try dsimp only
      refine a_iwn hW shp_none ?_
      rw [isNum_none]
      repeat (first
        | (with_reducible refine k_seq ?_)
        | (with_reducible refine k_set ?_)
        | (with_reducible refine k_call ?_)
        | (with_reducible refine k_cons ?_)
        | (with_reducible refine k_nil ?_)
        | (with_reducible refine k_c ?_)
        | (with_reducible refine k_lst ?_)
        | (with_reducible refine k_tup ?_)
        | (with_reducible refine k_if ?_)
        | (with_reducible refine k_not ?_)
        | (with_reducible refine k_or ?_)
        | (with_reducible refine k_test ?_)
        | (with_reducible refine k_op ?_)
        | (with_reducible refine k_neg ?_)
        | (with_reducible refine k_asg ?_)
        | (with_reducible refine k_par ?_)
        | (with_reducible refine k_next ?_)
        | (with_reducible refine k_give ?_)
        | (with_reducible refine k_for ?_)
        | (with_reducible refine k_seqOf ?_)
        | (with_reducible refine k_ret ?_)
        | ((with_reducible refine k_varE ?_); (refine ⟨_, rfl, ?_⟩))
        | (with_reducible refine ⟨_, rfl, ?_⟩)
        | (with_reducible refine if_not_true ?_)
        | (with_reducible refine And.intro (sz_small (by simp)) ?_))
      try dsimp only
      refine a_like (like_b 4 false) ?_
      repeat (first
        | (with_reducible refine k_seq ?_)
        | (with_reducible refine k_set ?_)
        | (with_reducible refine k_call ?_)
        | (with_reducible refine k_cons ?_)
        | (with_reducible refine k_nil ?_)
        | (with_reducible refine k_c ?_)
        | (with_reducible refine k_lst ?_)
        | (with_reducible refine k_tup ?_)
        | (with_reducible refine k_if ?_)
        | (with_reducible refine k_not ?_)
        | (with_reducible refine k_or ?_)
        | (with_reducible refine k_test ?_)
        | (with_reducible refine k_op ?_)
        | (with_reducible refine k_neg ?_)
        | (with_reducible refine k_asg ?_)
        | (with_reducible refine k_par ?_)
        | (with_reducible refine k_next ?_)
        | (with_reducible refine k_give ?_)
        | (with_reducible refine k_for ?_)
        | (with_reducible refine k_seqOf ?_)
        | (with_reducible refine k_ret ?_)
        | ((with_reducible refine k_varE ?_); (refine ⟨_, rfl, ?_⟩))
        | (with_reducible refine ⟨_, rfl, ?_⟩)
        | (with_reducible refine if_not_true ?_)
        | (with_reducible refine And.intro (sz_small (by simp)) ?_))
      try dsimp only
      exact k _ ⟨_, _, _, _, _, _, _, _, _, _, _, _, rfl, by omega⟩
    · simp only [List.mem_cons, List.not_mem_nil, or_false] at hy
      rcases hy with rfl | rfl | rfl | rfl | rfl | rfl | rfl | rfl | rfl | rfl | rfl | rfl | rfl | rfl | rfl | rfl | rfl | rfl | rfl <;>
        first
          | exact hod
          | exact odd_i _
          | exact odd_b _
          | exact odd_s so_d
          | exact odd_t1 _
          | exact odd_ii _ _ (by decide)
          | exact odd_l _ _
          | exact odd_bi _ _
  · rintro e ⟨s2, s3, s4, s5, s6, s7, s8, s9, s10, s11, s12, w, rfl, hw⟩
    try dsimp only
    repeat (first
      | (with_reducible refine k_seq ?_)
      | (with_reducible refine k_set ?_)
      | (with_reducible refine k_call ?_)
      | (with_reducible refine k_cons ?_)
      | (with_reducible refine k_nil ?_)
      | (with_reducible refine k_c ?_)
      | (with_reducible refine k_lst ?_)
      | (with_reducible refine k_tup ?_)
      | (with_reducible refine k_if ?_)
      | (with_reducible refine k_not ?_)
      | (with_reducible refine k_or ?_)
      | (with_reducible refine k_test ?_)
      | (with_reducible refine k_op ?_)
      | (with_reducible refine k_neg ?_)
      | (with_reducible refine k_asg ?_)
      | (with_reducible refine k_par ?_)
      | (with_reducible refine k_next ?_)
      | (with_reducible refine k_give ?_)
      | (with_reducible refine k_for ?_)
      | (with_reducible refine k_seqOf ?_)
      | (with_reducible refine k_ret ?_)
      | ((with_reducible refine k_varE ?_); (refine ⟨_, rfl, ?_⟩))
      | (with_reducible refine ⟨_, rfl, ?_⟩)
      | (with_reducible refine if_not_true ?_)
      | (with_reducible refine And.intro (sz_small (by simp)) ?_))
    try dsimp only
    refine ⟨_, .inr rfl, ?_⟩
    refine for_inv (fun xs e => (∃ s2 s3 s4 s5 s6 s7 s8 s9 s10 s11 s12 : Sl, e = ⟨[.no, .d stTok, s2, s3, s4, s5, s6, s7, s8, s9, s10, s11, s12], w⟩) ∧ ∀ y ∈ xs, NoWay y) ?_ ?_ _ _ ⟨⟨_, _, _, _, _, _, _, _, _, _, _, rfl⟩, fun y hy => ?_⟩
    · rintro y ys e K' ⟨⟨s2, s3, s4, s5, s6, s7, s8, s9, s10, s11, s12, rfl⟩, hy⟩ kk
      have ho := hy y List.mem_cons_self
      have lt : likeN 4 (.tuple [.str "way", y]) := like_p so_b ho.like
      dsimp only [gNm]
      repeat (first
        | (with_reducible refine k_seq ?_)
        | (with_reducible refine k_set ?_)
        | (with_reducible refine k_call ?_)
        | (with_reducible refine k_cons ?_)
        | (with_reducible refine k_nil ?_)
        | (with_reducible refine k_c ?_)
        | (with_reducible refine k_lst ?_)
        | (with_reducible refine k_tup ?_)
        | (with_reducible refine k_if ?_)
        | (with_reducible refine k_not ?_)
        | (with_reducible refine k_or ?_)
        | (with_reducible refine k_test ?_)
        | (with_reducible refine k_op ?_)
        | (with_reducible refine k_neg ?_)
        | (with_reducible refine k_asg ?_)
        | (with_reducible refine k_par ?_)
        | (with_reducible refine k_next ?_)
        | (with_reducible refine k_give ?_)
        | (with_reducible refine k_for ?_)
        | (with_reducible refine k_seqOf ?_)
        | (with_reducible refine k_ret ?_)
        | ((with_reducible refine k_varE ?_); (refine ⟨_, rfl, ?_⟩))
        | (with_reducible refine ⟨_, rfl, ?_⟩)
        | (with_reducible refine if_not_true ?_)
        | (with_reducible refine And.intro (sz_small (by simp)) ?_))
      try dsimp only
      refine b_isway ho ?_
      repeat (first
        | (with_reducible refine k_seq ?_)
        | (with_reducible refine k_set ?_)
        | (with_reducible refine k_call ?_)
        | (with_reducible refine k_cons ?_)
        | (with_reducible refine k_nil ?_)
        | (with_reducible refine k_c ?_)
        | (with_reducible refine k_lst ?_)
        | (with_reducible refine k_tup ?_)
        | (with_reducible refine k_if ?_)
        | (with_reducible refine k_not ?_)
        | (with_reducible refine k_or ?_)
        | (with_reducible refine k_test ?_)
        | (with_reducible refine k_op ?_)
        | (with_reducible refine k_neg ?_)
        | (with_reducible refine k_asg ?_)
        | (with_reducible refine k_par ?_)
        | (with_reducible refine k_next ?_)
        | (with_reducible refine k_give ?_)
        | (with_reducible refine k_for ?_)
        | (with_reducible refine k_seqOf ?_)
        | (with_reducible refine k_ret ?_)
        | ((with_reducible refine k_varE ?_); (refine ⟨_, rfl, ?_⟩))
        | (with_reducible refine ⟨_, rfl, ?_⟩)
        | (with_reducible refine if_not_true ?_)
        | (with_reducible refine And.intro (sz_small (by simp)) ?_))
      try dsimp only
      refine b_need ho (.inl ⟨rfl, _, rfl, ?_⟩)
      repeat (first
        | (with_reducible refine k_seq ?_)
        | (with_reducible refine k_set ?_)
        | (with_reducible refine k_call ?_)
        | (with_reducible refine k_cons ?_)
        | (with_reducible refine k_nil ?_)
        | (with_reducible refine k_c ?_)
        | (with_reducible refine k_lst ?_)
        | (with_reducible refine k_tup ?_)
        | (with_reducible refine k_if ?_)
        | (with_reducible refine k_not ?_)
        | (with_reducible refine k_or ?_)
        | (with_reducible refine k_test ?_)
        | (with_reducible refine k_op ?_)
        | (with_reducible refine k_neg ?_)
        | (with_reducible refine k_asg ?_)
        | (with_reducible refine k_par ?_)
        | (with_reducible refine k_next ?_)
        | (with_reducible refine k_give ?_)
        | (with_reducible refine k_for ?_)
        | (with_reducible refine k_seqOf ?_)
        | (with_reducible refine k_ret ?_)
        | ((with_reducible refine k_varE ?_); (refine ⟨_, rfl, ?_⟩))
        | (with_reducible refine ⟨_, rfl, ?_⟩)
        | (with_reducible refine if_not_true ?_)
        | (with_reducible refine And.intro (sz_small (by simp)) ?_))
      try dsimp only
      refine b_one ho (.inl ⟨rfl, _, rfl, ?_⟩)
      repeat (first
        | (with_reducible refine k_seq ?_)
        | (with_reducible refine k_set ?_)
        | (with_reducible refine k_call ?_)
        | (with_reducible refine k_cons ?_)
        | (with_reducible refine k_nil ?_)
        | (with_reducible refine k_c ?_)
        | (with_reducible refine k_lst ?_)
        | (with_reducible refine k_tup ?_)
        | (with_reducible refine k_if ?_)
        | (with_reducible refine k_not ?_)
        | (with_reducible refine k_or ?_)
        | (with_reducible refine k_test ?_)
        | (with_reducible refine k_op ?_)
        | (with_reducible refine k_neg ?_)
        | (with_reducible refine k_asg ?_)
        | (with_reducible refine k_par ?_)
        | (with_reducible refine k_next ?_)
        | (with_reducible refine k_give ?_)
        | (with_reducible refine k_for ?_)
        | (with_reducible refine k_seqOf ?_)
        | (with_reducible refine k_ret ?_)
        | ((with_reducible refine k_varE ?_); (refine ⟨_, rfl, ?_⟩))
        | (with_reducible refine ⟨_, rfl, ?_⟩)
        | (with_reducible refine if_not_true ?_)
        | (with_reducible refine And.intro (sz_small (by simp)) ?_))
      try dsimp only
      refine b_iwn ho (shp_int 1) (.inl ⟨rfl, _, rfl, ?_⟩)
      repeat (first
        | (with_reducible refine k_seq ?_)
        | (with_reducible refine k_set ?_)
        | (with_reducible refine k_call ?_)
        | (with_reducible refine k_cons ?_)
        | (with_reducible refine k_nil ?_)
        | (with_reducible refine k_c ?_)
        | (with_reducible refine k_lst ?_)
        | (with_reducible refine k_tup ?_)
        | (with_reducible refine k_if ?_)
        | (with_reducible refine k_not ?_)
        | (with_reducible refine k_or ?_)
        | (with_reducible refine k_test ?_)
        | (with_reducible refine k_op ?_)
        | (with_reducible refine k_neg ?_)
        | (with_reducible refine k_asg ?_)
        | (with_reducible refine k_par ?_)
        | (with_reducible refine k_next ?_)
        | (with_reducible refine k_give ?_)
        | (with_reducible refine k_for ?_)
        | (with_reducible refine k_seqOf ?_)
        | (with_reducible refine k_ret ?_)
        | ((with_reducible refine k_varE ?_); (refine ⟨_, rfl, ?_⟩))
        | (with_reducible refine ⟨_, rfl, ?_⟩)
        | (with_reducible refine if_not_true ?_)
        | (with_reducible refine And.intro (sz_small (by simp)) ?_))
      try dsimp only
      refine ⟨⟨by decide, by decide, by rw [sizeLine_eq]; show 1 * 3 ≤ 16777216; decide⟩, ?_⟩
      rw [rep3]
      refine ⟨by rw [sizeLine_eq]; show 1 + 3 ≤ 16777216; decide, ?_⟩
      simp only [List.cons_append, List.nil_append]
      repeat (first
        | (with_reducible refine k_seq ?_)
        | (with_reducible refine k_set ?_)
        | (with_reducible refine k_call ?_)
        | (with_reducible refine k_cons ?_)
        | (with_reducible refine k_nil ?_)
        | (with_reducible refine k_c ?_)
        | (with_reducible refine k_lst ?_)
        | (with_reducible refine k_tup ?_)
        | (with_reducible refine k_if ?_)
        | (with_reducible refine k_not ?_)
        | (with_reducible refine k_or ?_)
        | (with_reducible refine k_test ?_)
        | (with_reducible refine k_op ?_)
        | (with_reducible refine k_neg ?_)
        | (with_reducible refine k_asg ?_)
        | (with_reducible refine k_par ?_)
        | (with_reducible refine k_next ?_)
        | (with_reducible refine k_give ?_)
        | (with_reducible refine k_for ?_)
        | (with_reducible refine k_seqOf ?_)
        | (with_reducible refine k_ret ?_)
        | ((with_reducible refine k_varE ?_); (refine ⟨_, rfl, ?_⟩))
        | (with_reducible refine ⟨_, rfl, ?_⟩)
        | (with_reducible refine if_not_true ?_)
        | (with_reducible refine And.intro (sz_small (by simp)) ?_))
      try dsimp only
      refine a_like (like_l (by simp) fun z hz => by
        simp only [List.mem_cons, List.not_mem_nil, or_false] at hz
        rcases hz with rfl | rfl | rfl | rfl
        · exact like_b 3 _
        all_goals exact lt) ?_
      repeat (first
        | (with_reducible refine k_seq ?_)
        | (with_reducible refine k_set ?_)
        | (with_reducible refine k_call ?_)
        | (with_reducible refine k_cons ?_)
        | (with_reducible refine k_nil ?_)
        | (with_reducible refine k_c ?_)
        | (with_reducible refine k_lst ?_)
        | (with_reducible refine k_tup ?_)
        | (with_reducible refine k_if ?_)
        | (with_reducible refine k_not ?_)
        | (with_reducible refine k_or ?_)
        | (with_reducible refine k_test ?_)
        | (with_reducible refine k_op ?_)
        | (with_reducible refine k_neg ?_)
        | (with_reducible refine k_asg ?_)
        | (with_reducible refine k_par ?_)
        | (with_reducible refine k_next ?_)
        | (with_reducible refine k_give ?_)
        | (with_reducible refine k_for ?_)
        | (with_reducible refine k_seqOf ?_)
        | (with_reducible refine k_ret ?_)
        | ((with_reducible refine k_varE ?_); (refine ⟨_, rfl, ?_⟩))
        | (with_reducible refine ⟨_, rfl, ?_⟩)
        | (with_reducible refine if_not_true ?_)
        | (with_reducible refine And.intro (sz_small (by simp)) ?_))
      try dsimp only
      refine b_add ho shp_q shp_none (.inl ⟨rfl, _, rfl, ?_⟩)
      repeat (first
        | (with_reducible refine k_seq ?_)
        | (with_reducible refine k_set ?_)
        | (with_reducible refine k_call ?_)
        | (with_reducible refine k_cons ?_)
        | (with_reducible refine k_nil ?_)
        | (with_reducible refine k_c ?_)
        | (with_reducible refine k_lst ?_)
        | (with_reducible refine k_tup ?_)
        | (with_reducible refine k_if ?_)
        | (with_reducible refine k_not ?_)
        | (with_reducible refine k_or ?_)
        | (with_reducible refine k_test ?_)
        | (with_reducible refine k_op ?_)
        | (with_reducible refine k_neg ?_)
        | (with_reducible refine k_asg ?_)
        | (with_reducible refine k_par ?_)
        | (with_reducible refine k_next ?_)
        | (with_reducible refine k_give ?_)
        | (with_reducible refine k_for ?_)
        | (with_reducible refine k_seqOf ?_)
        | (with_reducible refine k_ret ?_)
        | ((with_reducible refine k_varE ?_); (refine ⟨_, rfl, ?_⟩))
        | (with_reducible refine ⟨_, rfl, ?_⟩)
        | (with_reducible refine if_not_true ?_)
        | (with_reducible refine And.intro (sz_small (by simp)) ?_))
      try dsimp only
      refine a_like (like_le lt (by decide)) ?_
      repeat (first
        | (with_reducible refine k_seq ?_)
        | (with_reducible refine k_set ?_)
        | (with_reducible refine k_call ?_)
        | (with_reducible refine k_cons ?_)
        | (with_reducible refine k_nil ?_)
        | (with_reducible refine k_c ?_)
        | (with_reducible refine k_lst ?_)
        | (with_reducible refine k_tup ?_)
        | (with_reducible refine k_if ?_)
        | (with_reducible refine k_not ?_)
        | (with_reducible refine k_or ?_)
        | (with_reducible refine k_test ?_)
        | (with_reducible refine k_op ?_)
        | (with_reducible refine k_neg ?_)
        | (with_reducible refine k_asg ?_)
        | (with_reducible refine k_par ?_)
        | (with_reducible refine k_next ?_)
        | (with_reducible refine k_give ?_)
        | (with_reducible refine k_for ?_)
        | (with_reducible refine k_seqOf ?_)
        | (with_reducible refine k_ret ?_)
        | ((with_reducible refine k_varE ?_); (refine ⟨_, rfl, ?_⟩))
        | (with_reducible refine ⟨_, rfl, ?_⟩)
        | (with_reducible refine if_not_true ?_)
        | (with_reducible refine And.intro (sz_small (by simp)) ?_))
      try dsimp only
      exact kk _ ⟨⟨_, _, _, _, _, _, _, _, _, _, _, rfl⟩, fun z hz => hy z (List.mem_cons_of_mem _ hz)⟩
    · rintro e ⟨⟨s2, s3, s4, s5, s6, s7, s8, s9, s10, s11, s12, rfl⟩, _⟩
      try dsimp only
      repeat (first
        | (with_reducible refine k_seq ?_)
        | (with_reducible refine k_set ?_)
        | (with_reducible refine k_call ?_)
        | (with_reducible refine k_cons ?_)
        | (with_reducible refine k_nil ?_)
        | (with_reducible refine k_c ?_)
        | (with_reducible refine k_lst ?_)
        | (with_reducible refine k_tup ?_)
        | (with_reducible refine k_if ?_)
        | (with_reducible refine k_not ?_)
        | (with_reducible refine k_or ?_)
        | (with_reducible refine k_test ?_)
        | (with_reducible refine k_op ?_)
        | (with_reducible refine k_neg ?_)
        | (with_reducible refine k_asg ?_)
        | (with_reducible refine k_par ?_)
        | (with_reducible refine k_next ?_)
        | (with_reducible refine k_give ?_)
        | (with_reducible refine k_for ?_)
        | (with_reducible refine k_seqOf ?_)
        | (with_reducible refine k_ret ?_)
        | ((with_reducible refine k_varE ?_); (refine ⟨_, rfl, ?_⟩))
        | (with_reducible refine ⟨_, rfl, ?_⟩)
        | (with_reducible refine if_not_true ?_)
        | (with_reducible refine And.intro (sz_small (by simp)) ?_))
      try dsimp only
      exact q _
    · simp only [List.mem_cons, List.not_mem_nil, or_false] at hy
      rcases hy with rfl | rfl | rfl | rfl | rfl | rfl | rfl | rfl | rfl | rfl | rfl | rfl | rfl | rfl | rfl <;> refine ⟨?_, by decide +kernel⟩
      · exact like_s 2 so_1
      · exact like_t0 2
      · exact like_t1 (like_s 1 so_e)
      · exact like_t2 (like_s 1 so_1) (like_i 1 _)
      · exact like_t1 (like_s 1 so_4)
      · exact like_t2 (like_s 1 so_4) (like_i 1 _)
      · exact like_t2 (like_s 1 so_4) (like_i 1 _)
      · exact like_t2 (like_s 1 so_4) (like_b 1 _)
      · exact like_l1 (like_s 1 so_1)
      · exact like_n 2
      · exact like_t2 (like_s 1 so_4) (like_s 1 so_f)
      · exact like_t2 (like_s 1 so_0) (like_t0 1)
      · exact like_t1 (like_i 1 _)
      · exact like_t2 (like_s 1 so_2) (like_n 1)
      · exact like_i 2 _
end LK
end
section
set_option Elab.async false
set_option linter.all false
set_option maxRecDepth 100000
set_option maxHeartbeats 4000000
set_option autoImplicit false
/-! P21: a written part with one object more; the end of a law whose constants are loose tuples. -/
namespace PL
open PySem PySem.Spec PySem.W PySem.Calls PyProof.Rows PySem.HandSPX L2
def Ext (K K' : Frag) : Prop := ∀ a o, K.lookup a = some o → K'.lookup a = some o
section
variable {K K' : Frag} (S : Ext K K')
include S
theorem ext_nsIn {ns : Addr} {x : Str} {r : Option Value} (h : nsIn K ns x = some r) : nsIn K' ns x = some r := by
  cases e : K.lookup ns with
  | none => simp [nsIn, e] at h
  | some o =>
    unfold nsIn at h ⊢
    rw [S _ _ e]
    rw [e] at h
    exact h
theorem ext_ownIn {c : Value} {x : Str} {r : Option Value} (h : ownIn K x c = some r) : ownIn K' x c = some r := by
  cases c with
  | ref a =>
    cases e : K.lookup a with
    | none => simp [ownIn, e] at h
    | some o =>
      unfold ownIn at h ⊢
      dsimp only at h ⊢
      rw [S _ _ e]
      rw [e] at h
      obtain ⟨c, d, dt, sl⟩ := o
      cases dt <;> first | exact ext_nsIn S h | exact h
  | _ => exact h
theorem ext_alongIn {x : Str} : ∀ {l : List Value} {r : Option Value}, alongIn K x l = some r → alongIn K' x l = some r
  | [], r, h => h
  | c :: l, r, h => by
    cases e : ownIn K x c with
    | none => simp [alongIn, e] at h
    | some o =>
      unfold alongIn at h ⊢
      rw [ext_ownIn S e]
      rw [e] at h
      cases o with
      | some v => exact h
      | none => exact ext_alongIn h
theorem ext_findIn {t : Value} {x : Str} {r : Option Value} (h : findIn K t x = some r) : findIn K' t x = some r := by
  cases t with
  | ref a =>
    cases e : K.lookup a with
    | none => simp [findIn, e] at h
    | some o =>
      unfold findIn at h ⊢
      dsimp only at h ⊢
      rw [S _ _ e]
      rw [e] at h
      obtain ⟨c, d, dt, sl⟩ := o
      cases dt <;> first | exact ext_alongIn S h | exact h
  | _ => exact h
theorem ext_typeIn {v t : Value} (h : typeIn K v = some t) : typeIn K' v = some t := by
  cases v with
  | ref a =>
    cases e : K.lookup a with
    | none => simp [typeIn, e] at h
    | some o =>
      unfold typeIn at h ⊢
      dsimp only at h ⊢
      rw [S _ _ e]
      rw [e] at h
      exact h
  | _ => exact h
theorem ext_specialIn {v : Value} {x : Str} {r : Option Value} (h : specialIn K v x = some r) : specialIn K' v x = some r := by
  obtain ⟨t, a, b⟩ := Option.bind_eq_some_iff.mp h
  exact Option.bind_eq_some_iff.mpr ⟨t, ext_typeIn S a, ext_findIn S b⟩
theorem ext_codeIn {v : Value} {x : Str} (h : codeIn K v x = true) : codeIn K' v x = true := by
  cases v with
  | ref a =>
    cases e : K.lookup a with
    | none => simp [codeIn, e] at h
    | some o =>
      unfold codeIn at h ⊢
      dsimp only at h ⊢
      rw [S _ _ e]
      rw [e] at h
      exact h
  | _ => exact h
theorem ext_keepIn {v : Value} (h : keepIn K v = true) : keepIn K' v = true := by
  cases v with
  | ref a =>
    cases e : K.lookup a with
    | none => simp [keepIn, e] at h
    | some o =>
      unfold keepIn at h ⊢
      dsimp only at h ⊢
      rw [S _ _ e]
      rw [e] at h
      obtain ⟨c, d, dt, sl⟩ := o
      cases dt <;> first | (exact beq_iff_eq.mpr (ext_specialIn S (beq_iff_eq.mp h))) | exact h
  | _ => exact h
theorem ext_clsIn {C : Addr} {c : ClassData} (h : clsIn K C = some c) : clsIn K' C = some c := by
  cases e : K.lookup C with
  | none => simp [clsIn, e] at h
  | some o =>
    unfold clsIn at h ⊢
    rw [S _ _ e]
    rw [e] at h
    exact h
theorem ext_mroIn {C : Addr} {b : Value} {r : Bool} (h : mroIn K C b = some r) : mroIn K' C b = some r := by
  obtain ⟨t, a, b⟩ := Option.bind_eq_some_iff.mp h
  exact Option.bind_eq_some_iff.mpr ⟨t, ext_clsIn S a, b⟩
theorem ext_subIn {t b : Value} {r : Bool} (h : subIn K t b = some r) : subIn K' t b = some r := by
  cases t with
  | ref a => exact ext_mroIn S h
  | _ => exact h
theorem ext_hasDictIn {C : Addr} (h : hasDictIn K C = true) : hasDictIn K' C = true := by
  cases e : clsIn K C with
  | none => simp [hasDictIn, e] at h
  | some c =>
    unfold hasDictIn at h ⊢
    rw [ext_clsIn S e]
    rw [e] at h
    exact h
theorem ext_isClsIn {C : Addr} (h : isClsIn K C = true) : isClsIn K' C = true := by
  cases e : clsIn K C with
  | none => simp [isClsIn, e] at h
  | some c =>
    unfold isClsIn at h ⊢
    rw [ext_clsIn S e]
    rfl
theorem ext_superIn {C D : Addr} {x : Str} {r : Option Value} (h : ks_superIn K C D x = some r) : ks_superIn K' C D x = some r := by
  obtain ⟨t, a, b⟩ := Option.bind_eq_some_iff.mp h
  exact Option.bind_eq_some_iff.mpr ⟨t, ext_clsIn S a, ext_alongIn S b⟩
end
/-- what an except clause of the class at C says to an error of the class t -/
theorem exm_of {K : Frag} {t : Value} {C : Addr} {b : Bool} (h1 : subIn K (.ref C) (.type "BaseException") = some true) (h2 : isClsIn K C = true) (h3 : typeIn K (.ref C) = some (.type "type")) (h4 : subIn K t (.ref C) = some b) : exmOne K t (.ref C) = some b := by
  have e1 : (subIn K (.ref C) (.type "BaseException") == some true) = true := by rw [h1] <;> rfl
  have e2 : ((clsIn K C).isSome && typeIn K (.ref C) == some (.type "type")) = true := by
    have h2' : (clsIn K C).isSome = true := h2
    rw [h2', h3] <;> rfl
  show (if (subIn K (.ref C) (.type "BaseException") == some true) = true then (if ((clsIn K C).isSome && typeIn K (.ref C) == some (.type "type")) = true then subIn K t (.ref C) else none) else none) = some b
  rw [if_pos e1, if_pos e2]
  exact h4
/-- a def that is there, in a larger part -/
theorem at_mk {K K' : Frag} {mg : Str → Option Value} {h : Heap} {x : Str} {st : Stmt} {ps : List Str} {f : Addr} {oc kV doc pm cdv ct : Value} {od an : Option Addr} {osl : Array (Option Value)} (S : Ext K K') (X : K.In h) (G : h.Ns mainGlobals mg)
    (a : nsIn K mainGlobals x = some (some (.ref f))) (l : K.lookup f = some ⟨oc, od, .func (fnOf x x (defArgs st) (defBody st) (defScope st) .none kV doc pm an cdv ct), osl⟩) (c : codeIn K cdv x = true) (k : keepIn K (.ref f) = true)
    (hb : ∀ (kV doc pm : Value) (an : Option Addr) (cdv ct : Value) (us : List Value), us.length = ps.length → bindArgs (fnOf x x (defArgs st) (defBody st) (defScope st) .none kV doc pm an cdv ct) ⟨us, []⟩ = pure (ps.zip us)) : At K' mg x st ps := by
  have F : Fun K' x x st f _ := fun_mk (S _ _ l) (ext_codeIn S c) (ext_keepIn S k)
  exact ⟨f, _, mg_of X G a, F, F.binds hb⟩
/-- an own error, in a larger part -/
theorem bad_mk {prog : Program} {K K' : Frag} {mg : Str → Option Value} {h : Heap} {nm prm fld : Str} {C : Addr} {nm' q : Str} {N : Addr} {bs bm : List Value} {sn : List Str} {sub : List Value} {ab : Bool} {col : Option Bool} {dd : Option Addr} {k0 k1 k2 k3 k5 : Option Value}
    {fI cc cda : Addr} {oc doc pm ct : Value} {od an : Option Addr} {osl : Array (Option Value)} {qn : Str} {p1 p2 a0 a1 a2 a3 a4 a5 q1 q2 q3 q4 : Pos} {ccl cl : Value} {cdd cld : Option Addr} {vs : Array Value} {ccs csl : Array (Option Value)} {file : Str} {tf : Tok}
    (S : Ext K K') (X : K.In h) (G : h.Ns mainGlobals mg) (aC : nsIn K mainGlobals nm = some (some (.ref C)))
    (xL : K.lookup C = some (excClassObj nm' q C N bs bm true sn sub ab col dd k0 k1 k2 k3 k5 "ValueError.__new__")) (hbm : refsVE bm = true)
    (sa : findIn K (.ref C) "__setattr__" = some (some (.builtin "object.__setattr__"))) (ga : findIn K (.ref C) "__getattribute__" = some (some (.builtin "BaseException.__getattribute__"))) (gg : findIn K (.ref C) "__getattr__" = some none) (noN : findIn K (.ref C) fld = some none)
    (kC : keepIn K (.ref C) = true) (exC : subIn K (.ref C) (.type "BaseException") = some true) (veC : subIn K (.ref C) (.type "ValueError") = some true) (tyC : typeIn K (.ref C) = some (.type "type")) (hdC : hasDictIn K C = true) (suC : mroIn K C (.ref C) = some true)
    (opq : nsIn K cStatics "thirdparty.any" = some none) (sup : ks_superIn K C C "__init__" = some (some (.builtin "ValueError.__init__"))) (noS : nsIn K mainGlobals "super" = some none)
    (top : (prog.main.scope.names.lookup ("super" : Str)).isSome = false) (nsf : (PySem.Str.ofString "self" == prm) = false) (nsp : (prm == ("super" : Str)) = false ∧ (prm == ("__class__" : Str)) = false ∧ (prm == ("__debug__" : Str)) = false)
    (i1 : findIn K (.ref C) "__init__" = some (some (.ref fI))) (i2 : typeIn K (.ref fI) = some (.type "function"))
    (i3 : K.lookup fI = some ⟨oc, od, .func (ksFn "__init__" qn (bdA prm p1 p2) (bdB prm fld a0 a1 a2 a3 a4 a5 q1 q2 q3 q4) (bdS prm) .none .none doc pm an (.ref cda) ct cc), osl⟩) (i4 : codeIn K (.ref cda) qn = true)
    (i5 : K.lookup cda = some ⟨ccl, cdd, .fields vs, ccs⟩) (i6 : vs[2]? = some (.str file tf)) (i7 : ((prog.main.file : Str) == file) = true) (i8 : K.lookup cc = some ⟨cl, cld, .cell (some (.ref C)), csl⟩)
    (hev : ∀ env : Env, ∃ pl : Sem Bool, eval (.Call (.Attribute (.Call (.Name (PySem.Str.ofString "super") a0) [] [] a1) (PySem.Str.ofString "__init__") a2) [.Name prm a3] [] a4) env = (do
      let ov ← attributeBase (.Call (.Name (PySem.Str.ofString "super") a0) [] [] a1) (PySem.Str.ofString "__init__") env (eval (.Call (.Name (PySem.Str.ofString "super") a0) [] [] a1) env)
      standAt a2.atName
      let (f, first) ← holding [ov] (getMethod ov (PySem.Str.ofString "__init__") pl)
      callWith a4 f first (backTo a4 (starEach [.Name prm a3] env)) []))
    (hsw : ∀ env : Env, swapsWith (.Call (.Attribute (.Call (.Name (PySem.Str.ofString "super") a0) [] [] a1) (PySem.Str.ofString "__init__") a2) [.Name prm a3] [] a4) none a5.line env = pure false)
    (hbd : ∀ (x v : Value), bindArgs (ksFn "__init__" qn (bdA prm p1 p2) (bdB prm fld a0 a1 a2 a3 a4 a5 q1 q2 q3 q4) (bdS prm) .none .none doc pm an (.ref cda) ct cc) ⟨[x, v], []⟩ = pure [(PySem.Str.ofString "self", x), (prm, v)]) : BadTxt prog K' mg nm prm fld C :=
  { gC := mg_of X G aC, cls := ⟨nm', q, N, bs, bm, sn, sub, ab, col, dd, k0, k1, k2, k3, k5, S _ _ xL, hbm⟩, sa := ext_findIn S sa, ga := ext_findIn S ga, gg := ext_findIn S gg, noN := ext_findIn S noN, kC := ext_keepIn S kC, exC := ext_subIn S exC, veC := ext_subIn S veC, tyC := ext_typeIn S tyC, hdC := ext_hasDictIn S hdC, suC := ext_mroIn S suC, opq := ext_nsIn S opq, sup := ext_superIn S sup, noS := mg_none_of X G noS, top := top, nsf := nsf, nsp := nsp,
    fn := ⟨fI, cc, cda, oc, od, doc, pm, an, ct, osl, qn, p1, p2, a0, a1, a2, a3, a4, a5, q1, q2, q3, q4, ext_findIn S i1, ext_typeIn S i2, S _ _ i3, ext_codeIn S i4, ⟨ccl, cdd, vs, ccs, file, tf, S _ _ i5, i6, i7⟩, ⟨cl, cld, csl, S _ _ i8⟩, hev, hsw, hbd⟩ }
theorem look_app : ∀ (K L : Frag) (b : Addr), (K ++ L).lookup b = (K.lookup b).or (L.lookup b)
  | [], L, b => by simp
  | (x, y) :: r, L, b => by
    have ih := look_app r L b
    rw [List.cons_append, List.lookup_cons, List.lookup_cons]
    cases e : b == x with
    | true => rfl
    | false => exact ih
/-- one object more, which is there -/
theorem ext_one {K : Frag} {h : Heap} {a : Addr} {o : Obj} (X : K.In h) (ha : h.get? a = some o) : Ext K (K ++ [(a, o)]) ∧ (K ++ [(a, o)]).In h ∧ (K ++ [(a, o)]).lookup a = some o ∧ ∀ b, K.lookup b = none → b ≠ a → (K ++ [(a, o)]).lookup b = none := by
  have e : ∀ b, (K ++ [(a, o)]).lookup b = (K.lookup b).or (List.lookup b [(a, o)]) := fun b => look_app K _ b
  have e1 : List.lookup a [(a, o)] = some o := by simp [List.lookup]
  have e0 : ∀ b, ¬ b = a → List.lookup b [(a, o)] = none := fun b hb => by
    have e3 : (b == a) = false := beq_eq_false_iff_ne.mpr hb
    simp only [List.lookup, e3]
  refine ⟨fun b u z => ?_, fun b u z => ?_, ?_, fun b z hb => ?_⟩
  · rw [e, z]
    rfl
  · rw [e] at z
    cases q : K.lookup b with
    | some u' =>
      rw [q] at z
      cases z
      exact X _ _ q
    | none =>
      rw [q] at z
      by_cases hb : b = a
      · subst hb
        rw [e1] at z
        cases z
        exact ha
      · have e2 := e0 b hb
        rw [e2] at z
        cases z
  · rw [e]
    cases q : K.lookup a with
    | none => exact e1
    | some u =>
      have := X _ _ q
      rw [ha] at this
      cases this
      rfl
  · rw [e, z]
    exact e0 b hb
/-- the end of a law, of which the written part may be one object more; the loose constants are known -/
theorem walk_loose {l : OpenLaw} {n k : Nat} {q p : Program} {loose : List Str} {lv : List (Str × WData)} {YP : World → Heap → Prop} {d : DefRec} {CX : World → CXT} {x : Str}
    (hn : l.most = some n) (hn2 : n ≤ sizeLine) (hdf : d.params.defaults = []) (hr : Room k callerA)
    (F : ∀ (w : World) (mg : Str → Option Value) (fa : Addr) (h : Heap), YP w h → LooseAre lv mg h → h.Ns mainGlobals mg → mg d.name = some (.ref fa) → ∃ K : Frag, K.In h ∧ LamX.LawAtS l w K (CX w) k n x mg fa h)
    (hCX : ∀ (w : World) (H : Hp) (s : Shared) (e : Value) (s' : Shared), CX w [] H s (fun _ _ _ => False) e s' → False) :
    WalkO q loose (XL p lv) YP l.row.toRowW d [] (fun f vs => PySem.call f vs) := by
  refine Att.attach_callB hn hdf fun w s₀ s₁ mg mb fa o pm cd doc a vs ns G Y ho hd hcd hmg hobj hints hlen hbits hg => ?_
  obtain ⟨K, KX, fd, cs, sp, hT, nT, C, hb, hsp, hF⟩ := F w mg fa _ Y G.X.2 G.T.g hmg
  exact LamX.law_callTs KX G.T.g G.T.b G.T.builtins G.T.nolimit hg hT nT C G.T.bmain hobj hints (Nat.le_trans hlen hn2) hr hF hb (fun H hH hS => hsp H a ns hlen hbits hH hS) fun H e s' => hCX w H s₁ e s'
/-- a loose tuple of strings -/
theorem loose_strs {K' : Frag} {mg : Str → Option Value} {h : Heap} {x : Str} {a : Addr} {o : Obj} {its : Array Value} {n : Nat} {xs : List Str} (hm : mg x = some (.ref a)) (hk : K'.lookup a = some o) (hc : o.cls = .type "tuple") (hd : o.data = .seq its n) (hr : ReadsAllW [] (fun _ => none) h its.toList (xs.map WData.str) []) (hl : xs.length ≤ 100) :
    GlD K' mg x (.tuple (xs.map PyData.str)) := by
  have key : ∀ (xs : List Str) (vs : List Value) (as : List Addr), ReadsAllW [] (fun _ => none) h vs (xs.map WData.str) as → Vals (xs.map V.str) vs := by
    intro xs
    induction xs with
    | nil => intro vs as r; cases r; exact .nil
    | cons y ys ih =>
      intro vs as r
      cases r with
      | cons r1 r2 =>
        obtain ⟨t, rfl, _⟩ := readsW_str_inv r1
        exact .cons ⟨_, rfl⟩ (ih _ _ r2)
  have hv := key xs _ _ hr
  have rp : ∀ (c : Cc) (F : Hp) (xs : List Str), RpAll c F (xs.map V.str) (xs.map PyData.str) := fun c F xs => by
    induction xs with
    | nil => exact .nil
    | cons y ys ih => exact .cons (.str y) ih
  refine ⟨.ref a, .ref a, hm, rfl, fun S F => .tup (.inr ⟨o, its, n, hk, hc, hd, ?_, hv⟩) (rp _ _ xs)⟩
  have e : its.toList.length = xs.length := by
    have := hv.length
    simpa using this.symm
  have e2 : its.size = xs.length := by rw [← e]; simp
  rw [e2]
  exact Nat.le_trans hl (by decide)
end PL
end
section
set_option Elab.async false
set_option linter.all false
set_option maxRecDepth 100000
set_option maxHeartbeats 4000000
set_option autoImplicit false
/-! QY: the law from the facts of the written part. -/
namespace LK
open PySem PySem.Spec PyProof.Rows L2 PL
theorem dok0 {P : Program} {w : World} {K : PySem.W.Frag} {mg : Str → Option Value} {base : Heap} {x : Str} {st : Stmt} {ps : List Str} {k : Nat} {sp : SpD} (A : At K mg x st ps) (no : ∀ ds w Q E, sp ds w Q E → False) : DOk P w K mg base k x ps sp := by
  obtain ⟨f, fd, hm, Fn, hb⟩ := A
  refine ⟨f, fd, hm, Fn.kp, hb, ⟨fun vs H Q E h => ?_, fun A outer s H args us vs Q E hr he hb hv h => ?_⟩⟩
  · obtain ⟨S, F, ds, n, _, _, _, _, h⟩ := h
    exact (no _ _ _ _ h).elim
  · obtain ⟨S, F, ds, n, _, _, _, _, h⟩ := h
    exact (no _ _ _ _ h).elim
theorem law_at {w : World} {K : PySem.W.Frag} {mg : Str → Option Value} {h : Heap} {ca : Str → Addr} {fa c P : Addr} {oc kV doc pm ct : Value} {od an : Option Addr} {osl : Array (Option Value)} (T : Txt K mg ca)
    (x1 : PySem.W.exmOne K (.ref (ca "BadWay")) (.ref (ca "BadWay")) = some true) (x2 : PySem.W.exmOne K (.ref (ca "BadNumber")) (.ref (ca "BadWay")) = some false) (x3 : PySem.W.exmOne K (.ref (ca "BadNumber")) (.ref (ca "BadNumber")) = some true)
    (lk : K.lookup fa = some ⟨oc, od, .func (PySem.W.fnOf "law" "law" (defArgs s_law) (defBody s_law) (defScope s_law) .none kV doc pm an (.ref c) ct), osl⟩) (hcd : PySem.W.codeIn K (.ref c) "law" = true)
    (hP : h.get? P = some { cls := .none, data := .fields #[] }) (nP : K.lookup P = none) (hC : PySem.W.CodeHd h c P) : LamX.LawAtS PySem.Challenge.rw_pairwhole_k20_whole_numbers_in_five_ways w K (L2.CX prog w) 9 63 "script" mg fa h := by
  refine ⟨PySem.W.fnOf "law" "law" (defArgs s_law) (defBody s_law) (defScope s_law) .none kV doc pm an (.ref c) ct, [(c, P)], spLaw K P, fun p hp => ?_, fun p hp => ?_, fun p hp => ?_, fun s u => .of_eq rfl, fun H a ns hl _ hH hS => ?_, fun base X G TB => ?_⟩
  · simp only [List.mem_cons, List.not_mem_nil, or_false] at hp
    subst hp
    exact hP
  · simp only [List.mem_cons, List.not_mem_nil, or_false] at hp
    subst hp
    exact nP
  · simp only [List.mem_cons, List.not_mem_nil, or_false] at hp
    subst hp
    exact hC
  · exact ⟨a, ns, rfl, hS, hl, hH (c, P) (by simp), fun _ => rfl⟩
  have h__law_mixed := ok__law_mixed (w := w) (base := base) T 
  have h__law_draw := ok__law_draw (w := w) (base := base) T h__law_mixed
  have h__law_of := ok__law_of (w := w) (base := base) T h__law_draw
  have h__law_drawn_way := ok__law_drawn_way (w := w) (base := base) T h__law_draw h__law_of
  have h__law_is_whole := ok__law_is_whole (w := w) (base := base) T 
  have h__law_are_whole := ok__law_are_whole (w := w) (base := base) T h__law_is_whole
  have h__law_lowest := ok__law_lowest (w := w) (base := base) T 
  have h__law_is_number := ok__law_is_number (w := w) (base := base) T h__law_are_whole h__law_is_whole h__law_lowest
  have h__law_drawn_number := ok__law_drawn_number (w := w) (base := base) T h__law_draw h__law_lowest h__law_of
  have h__law_vast := ok__law_vast (w := w) (base := base) T h__law_draw h__law_of
  have h__law_number := ok__law_number (w := w) (base := base) T h__law_draw h__law_drawn_number h__law_lowest h__law_of h__law_vast
  have h__law_plus := ok__law_plus (w := w) (base := base) T h__law_lowest
  have h__law_times := ok__law_times (w := w) (base := base) T h__law_lowest
  have h__law_unit := ok__law_unit (w := w) (base := base) T 
  have h_fraction_of := ok_fraction_of (w := w) (base := base) T 
  have h_left_by := ok_left_by (w := w) (base := base) T 
  have h_added_by := ok_added_by (w := w) (base := base) T h_fraction_of h_left_by
  have h_is_integer := ok_is_integer (w := w) (base := base) T 
  have h_is_tuple_of := ok_is_tuple_of (w := w) (base := base) T 
  have h_is_fraction := ok_is_fraction (w := w) (base := base) T h_is_integer h_is_tuple_of
  have h_is_number_in := ok_is_number_in (w := w) (base := base) T h_is_fraction h_is_integer
  have h_is_within := ok_is_within (w := w) (base := base) T h_is_integer
  have h_is_way := ok_is_way (w := w) (base := base) T h_is_within
  have h_need_way := ok_need_way (w := w) (base := base) T h_is_way
  have h_need_numbers := ok_need_numbers (w := w) (base := base) T h_is_number_in h_need_way
  have h_added_numbers := ok_added_numbers (w := w) (base := base) T h_added_by h_need_numbers
  have h_is_way_number := ok_is_way_number (w := w) (base := base) T h_is_number_in h_need_way
  have h_multiplied_by := ok_multiplied_by (w := w) (base := base) T h_fraction_of h_left_by
  have h_multiplied_numbers := ok_multiplied_numbers (w := w) (base := base) T h_multiplied_by h_need_numbers
  have h_one_in := ok_one_in (w := w) (base := base) T 
  have h_way_one := ok_way_one (w := w) (base := base) T h_need_way h_one_in
  have k0 : DOk prog w K mg base 0 "_law_like" ["told", "due"] (spLike (likeN 0)) := dok0 T.a__law_like fun ds w Q E ⟨_, _, z, _⟩ => z
  have h__law_like : DOk prog w K mg base 5 "_law_like" ["told", "due"] (spLike (likeN 5)) := like_step T (like_step T (like_step T (like_step T (like_step T k0))))
  have hb := ok__law_begun (w := w) (base := base) T (ok__law_folded (w := w) (base := base) T)
  exact law_body (k := 8) lk hcd sc_law rfl rfl (by decide) rfl rfl rfl (.inl rfl) hb (by decide) fun A outer s H E hr => law_rest T x1 x2 x3 (TB (c, P) (by simp)) h__law_drawn_way h__law_is_number h__law_like h__law_number h__law_plus h__law_times h__law_unit h__law_vast h_added_numbers h_is_way h_is_way_number h_multiplied_numbers h_need_way h_way_one A outer s H E hr
section
variable {w : World} {K : PySem.W.Frag} {mg : Str → Option Value} {h : Heap} {fa P : Addr}
theorem law_all {f0 : Addr} {oc0 kV0 dc0 pm0 cd0 ct0 : Value} {od0 an0 : Option Addr} {sl0 : Array (Option Value)}
    {f1 : Addr} {oc1 kV1 dc1 pm1 cd1 ct1 : Value} {od1 an1 : Option Addr} {sl1 : Array (Option Value)}
    {f2 : Addr} {oc2 kV2 dc2 pm2 cd2 ct2 : Value} {od2 an2 : Option Addr} {sl2 : Array (Option Value)}
    {f3 : Addr} {oc3 kV3 dc3 pm3 cd3 ct3 : Value} {od3 an3 : Option Addr} {sl3 : Array (Option Value)}
    {f4 : Addr} {oc4 kV4 dc4 pm4 cd4 ct4 : Value} {od4 an4 : Option Addr} {sl4 : Array (Option Value)}
    {f5 : Addr} {oc5 kV5 dc5 pm5 cd5 ct5 : Value} {od5 an5 : Option Addr} {sl5 : Array (Option Value)}
    {f6 : Addr} {oc6 kV6 dc6 pm6 cd6 ct6 : Value} {od6 an6 : Option Addr} {sl6 : Array (Option Value)}
    {f7 : Addr} {oc7 kV7 dc7 pm7 cd7 ct7 : Value} {od7 an7 : Option Addr} {sl7 : Array (Option Value)}
    {f8 : Addr} {oc8 kV8 dc8 pm8 cd8 ct8 : Value} {od8 an8 : Option Addr} {sl8 : Array (Option Value)}
    {f9 : Addr} {oc9 kV9 dc9 pm9 cd9 ct9 : Value} {od9 an9 : Option Addr} {sl9 : Array (Option Value)}
    {f10 : Addr} {oc10 kV10 dc10 pm10 cd10 ct10 : Value} {od10 an10 : Option Addr} {sl10 : Array (Option Value)}
    {f11 : Addr} {oc11 kV11 dc11 pm11 cd11 ct11 : Value} {od11 an11 : Option Addr} {sl11 : Array (Option Value)}
    {f12 : Addr} {oc12 kV12 dc12 pm12 cd12 ct12 : Value} {od12 an12 : Option Addr} {sl12 : Array (Option Value)}
    {f13 : Addr} {oc13 kV13 dc13 pm13 cd13 ct13 : Value} {od13 an13 : Option Addr} {sl13 : Array (Option Value)}
    {f14 : Addr} {oc14 kV14 dc14 pm14 cd14 ct14 : Value} {od14 an14 : Option Addr} {sl14 : Array (Option Value)}
    {f15 : Addr} {oc15 kV15 dc15 pm15 cd15 ct15 : Value} {od15 an15 : Option Addr} {sl15 : Array (Option Value)}
    {f16 : Addr} {oc16 kV16 dc16 pm16 cd16 ct16 : Value} {od16 an16 : Option Addr} {sl16 : Array (Option Value)}
    {f17 : Addr} {oc17 kV17 dc17 pm17 cd17 ct17 : Value} {od17 an17 : Option Addr} {sl17 : Array (Option Value)}
    {f18 : Addr} {oc18 kV18 dc18 pm18 cd18 ct18 : Value} {od18 an18 : Option Addr} {sl18 : Array (Option Value)}
    {f19 : Addr} {oc19 kV19 dc19 pm19 cd19 ct19 : Value} {od19 an19 : Option Addr} {sl19 : Array (Option Value)}
    {f20 : Addr} {oc20 kV20 dc20 pm20 cd20 ct20 : Value} {od20 an20 : Option Addr} {sl20 : Array (Option Value)}
    {f21 : Addr} {oc21 kV21 dc21 pm21 cd21 ct21 : Value} {od21 an21 : Option Addr} {sl21 : Array (Option Value)}
    {f22 : Addr} {oc22 kV22 dc22 pm22 cd22 ct22 : Value} {od22 an22 : Option Addr} {sl22 : Array (Option Value)}
    {f23 : Addr} {oc23 kV23 dc23 pm23 cd23 ct23 : Value} {od23 an23 : Option Addr} {sl23 : Array (Option Value)}
    {f24 : Addr} {oc24 kV24 dc24 pm24 cd24 ct24 : Value} {od24 an24 : Option Addr} {sl24 : Array (Option Value)}
    {f25 : Addr} {oc25 kV25 dc25 pm25 cd25 ct25 : Value} {od25 an25 : Option Addr} {sl25 : Array (Option Value)}
    {f26 : Addr} {oc26 kV26 dc26 pm26 cd26 ct26 : Value} {od26 an26 : Option Addr} {sl26 : Array (Option Value)}
    {f27 : Addr} {oc27 kV27 dc27 pm27 cd27 ct27 : Value} {od27 an27 : Option Addr} {sl27 : Array (Option Value)}
    {f28 : Addr} {oc28 kV28 dc28 pm28 cd28 ct28 : Value} {od28 an28 : Option Addr} {sl28 : Array (Option Value)}
    {f29 : Addr} {oc29 kV29 dc29 pm29 cd29 ct29 : Value} {od29 an29 : Option Addr} {sl29 : Array (Option Value)}
    {f30 : Addr} {oc30 kV30 dc30 pm30 cd30 ct30 : Value} {od30 an30 : Option Addr} {sl30 : Array (Option Value)}
    {f31 : Addr} {oc31 kV31 dc31 pm31 cd31 ct31 : Value} {od31 an31 : Option Addr} {sl31 : Array (Option Value)}
    {f32 : Addr} {oc32 kV32 dc32 pm32 cd32 ct32 : Value} {od32 an32 : Option Addr} {sl32 : Array (Option Value)}
    {f33 : Addr} {oc33 kV33 dc33 pm33 cd33 ct33 : Value} {od33 an33 : Option Addr} {sl33 : Array (Option Value)}
    {f34 : Addr} {oc34 kV34 dc34 pm34 cd34 ct34 : Value} {od34 an34 : Option Addr} {sl34 : Array (Option Value)}
    {f35 c : Addr} {oc35 kV35 dc35 pm35 ct35 : Value} {od35 an35 : Option Addr} {sl35 : Array (Option Value)}
    {t_WHETHER : Tok}
    {t_COUNT : Tok}
    {t_CHANCE : Tok}
    {t_COST : Tok}
    {t_LEFT : Tok}
    {t_MOST_LEFT : Tok}
    {C_0 : Addr} {nmq_0 q_0 : Str} {N_0 : Addr} {bs_0 bm_0 : List Value} {sn_0 : List Str} {sub_0 : List Value} {ab_0 : Bool} {col_0 : Option Bool} {dd_0 : Option Addr} {k0_0 k1_0 k2_0 k3_0 k5_0 : Option Value} {fI_0 cc_0 cda_0 : Addr} {oc_0 doc_0 pm_0 ct_0 : Value} {od_0 an_0 : Option Addr} {osl_0 : Array (Option Value)} {qn_0 : Str} {p1_0 p2_0 a0_0 a1_0 a2_0 a3_0 a4_0 a5_0 q1_0 q2_0 q3_0 q4_0 : Pos} {ccl_0 cl_0 : Value} {cdd_0 cld_0 : Option Addr} {vs_0 : Array Value} {ccs_0 csl_0 : Array (Option Value)} {fle_0 : Str} {tf_0 : Tok}
    {C_1 : Addr} {nmq_1 q_1 : Str} {N_1 : Addr} {bs_1 bm_1 : List Value} {sn_1 : List Str} {sub_1 : List Value} {ab_1 : Bool} {col_1 : Option Bool} {dd_1 : Option Addr} {k0_1 k1_1 k2_1 k3_1 k5_1 : Option Value} {fI_1 cc_1 cda_1 : Addr} {oc_1 doc_1 pm_1 ct_1 : Value} {od_1 an_1 : Option Addr} {osl_1 : Array (Option Value)} {qn_1 : Str} {p1_1 p2_1 a0_1 a1_1 a2_1 a3_1 a4_1 a5_1 q1_1 q2_1 q3_1 q4_1 : Pos} {ccl_1 cl_1 : Value} {cdd_1 cld_1 : Option Addr} {vs_1 : Array Value} {ccs_1 csl_1 : Array (Option Value)} {fle_1 : Str} {tf_1 : Tok}
    (X : K.In h) (G : h.Ns PySem.mainGlobals mg) (hfa : mg "law" = some (.ref fa)) (LV : PySem.W.LooseAre [("PLAIN", .tuple [.str "whether", .str "count", .str "chance", .str "cost"])] mg h)
    (hP : h.get? P = some { cls := .none, data := .fields #[] }) (nP : K.lookup P = none) (hC : PySem.W.CodeHd h c P)
    (a0 : PySem.W.nsIn K PySem.mainGlobals "is_integer" = some (some (.ref f0))) (l0 : K.lookup f0 = some ⟨oc0, od0, .func (PySem.W.fnOf "is_integer" "is_integer" (defArgs s_is_integer) (defBody s_is_integer) (defScope s_is_integer) .none kV0 dc0 pm0 an0 cd0 ct0), sl0⟩) (c0 : PySem.W.codeIn K cd0 "is_integer" = true) (k0 : PySem.W.keepIn K (.ref f0) = true)
    (a1 : PySem.W.nsIn K PySem.mainGlobals "is_within" = some (some (.ref f1))) (l1 : K.lookup f1 = some ⟨oc1, od1, .func (PySem.W.fnOf "is_within" "is_within" (defArgs s_is_within) (defBody s_is_within) (defScope s_is_within) .none kV1 dc1 pm1 an1 cd1 ct1), sl1⟩) (c1 : PySem.W.codeIn K cd1 "is_within" = true) (k1 : PySem.W.keepIn K (.ref f1) = true)
    (a2 : PySem.W.nsIn K PySem.mainGlobals "is_tuple_of" = some (some (.ref f2))) (l2 : K.lookup f2 = some ⟨oc2, od2, .func (PySem.W.fnOf "is_tuple_of" "is_tuple_of" (defArgs s_is_tuple_of) (defBody s_is_tuple_of) (defScope s_is_tuple_of) .none kV2 dc2 pm2 an2 cd2 ct2), sl2⟩) (c2 : PySem.W.codeIn K cd2 "is_tuple_of" = true) (k2 : PySem.W.keepIn K (.ref f2) = true)
    (a3 : PySem.W.nsIn K PySem.mainGlobals "is_way" = some (some (.ref f3))) (l3 : K.lookup f3 = some ⟨oc3, od3, .func (PySem.W.fnOf "is_way" "is_way" (defArgs s_is_way) (defBody s_is_way) (defScope s_is_way) .none kV3 dc3 pm3 an3 cd3 ct3), sl3⟩) (c3 : PySem.W.codeIn K cd3 "is_way" = true) (k3 : PySem.W.keepIn K (.ref f3) = true)
    (a4 : PySem.W.nsIn K PySem.mainGlobals "need_way" = some (some (.ref f4))) (l4 : K.lookup f4 = some ⟨oc4, od4, .func (PySem.W.fnOf "need_way" "need_way" (defArgs s_need_way) (defBody s_need_way) (defScope s_need_way) .none kV4 dc4 pm4 an4 cd4 ct4), sl4⟩) (c4 : PySem.W.codeIn K cd4 "need_way" = true) (k4 : PySem.W.keepIn K (.ref f4) = true)
    (a5 : PySem.W.nsIn K PySem.mainGlobals "fraction_of" = some (some (.ref f5))) (l5 : K.lookup f5 = some ⟨oc5, od5, .func (PySem.W.fnOf "fraction_of" "fraction_of" (defArgs s_fraction_of) (defBody s_fraction_of) (defScope s_fraction_of) .none kV5 dc5 pm5 an5 cd5 ct5), sl5⟩) (c5 : PySem.W.codeIn K cd5 "fraction_of" = true) (k5 : PySem.W.keepIn K (.ref f5) = true)
    (a6 : PySem.W.nsIn K PySem.mainGlobals "is_fraction" = some (some (.ref f6))) (l6 : K.lookup f6 = some ⟨oc6, od6, .func (PySem.W.fnOf "is_fraction" "is_fraction" (defArgs s_is_fraction) (defBody s_is_fraction) (defScope s_is_fraction) .none kV6 dc6 pm6 an6 cd6 ct6), sl6⟩) (c6 : PySem.W.codeIn K cd6 "is_fraction" = true) (k6 : PySem.W.keepIn K (.ref f6) = true)
    (a7 : PySem.W.nsIn K PySem.mainGlobals "is_number_in" = some (some (.ref f7))) (l7 : K.lookup f7 = some ⟨oc7, od7, .func (PySem.W.fnOf "is_number_in" "is_number_in" (defArgs s_is_number_in) (defBody s_is_number_in) (defScope s_is_number_in) .none kV7 dc7 pm7 an7 cd7 ct7), sl7⟩) (c7 : PySem.W.codeIn K cd7 "is_number_in" = true) (k7 : PySem.W.keepIn K (.ref f7) = true)
    (a8 : PySem.W.nsIn K PySem.mainGlobals "one_in" = some (some (.ref f8))) (l8 : K.lookup f8 = some ⟨oc8, od8, .func (PySem.W.fnOf "one_in" "one_in" (defArgs s_one_in) (defBody s_one_in) (defScope s_one_in) .none kV8 dc8 pm8 an8 cd8 ct8), sl8⟩) (c8 : PySem.W.codeIn K cd8 "one_in" = true) (k8 : PySem.W.keepIn K (.ref f8) = true)
    (a9 : PySem.W.nsIn K PySem.mainGlobals "left_by" = some (some (.ref f9))) (l9 : K.lookup f9 = some ⟨oc9, od9, .func (PySem.W.fnOf "left_by" "left_by" (defArgs s_left_by) (defBody s_left_by) (defScope s_left_by) .none kV9 dc9 pm9 an9 cd9 ct9), sl9⟩) (c9 : PySem.W.codeIn K cd9 "left_by" = true) (k9 : PySem.W.keepIn K (.ref f9) = true)
    (a10 : PySem.W.nsIn K PySem.mainGlobals "added_by" = some (some (.ref f10))) (l10 : K.lookup f10 = some ⟨oc10, od10, .func (PySem.W.fnOf "added_by" "added_by" (defArgs s_added_by) (defBody s_added_by) (defScope s_added_by) .none kV10 dc10 pm10 an10 cd10 ct10), sl10⟩) (c10 : PySem.W.codeIn K cd10 "added_by" = true) (k10 : PySem.W.keepIn K (.ref f10) = true)
    (a11 : PySem.W.nsIn K PySem.mainGlobals "multiplied_by" = some (some (.ref f11))) (l11 : K.lookup f11 = some ⟨oc11, od11, .func (PySem.W.fnOf "multiplied_by" "multiplied_by" (defArgs s_multiplied_by) (defBody s_multiplied_by) (defScope s_multiplied_by) .none kV11 dc11 pm11 an11 cd11 ct11), sl11⟩) (c11 : PySem.W.codeIn K cd11 "multiplied_by" = true) (k11 : PySem.W.keepIn K (.ref f11) = true)
    (a12 : PySem.W.nsIn K PySem.mainGlobals "way_one" = some (some (.ref f12))) (l12 : K.lookup f12 = some ⟨oc12, od12, .func (PySem.W.fnOf "way_one" "way_one" (defArgs s_way_one) (defBody s_way_one) (defScope s_way_one) .none kV12 dc12 pm12 an12 cd12 ct12), sl12⟩) (c12 : PySem.W.codeIn K cd12 "way_one" = true) (k12 : PySem.W.keepIn K (.ref f12) = true)
    (a13 : PySem.W.nsIn K PySem.mainGlobals "is_way_number" = some (some (.ref f13))) (l13 : K.lookup f13 = some ⟨oc13, od13, .func (PySem.W.fnOf "is_way_number" "is_way_number" (defArgs s_is_way_number) (defBody s_is_way_number) (defScope s_is_way_number) .none kV13 dc13 pm13 an13 cd13 ct13), sl13⟩) (c13 : PySem.W.codeIn K cd13 "is_way_number" = true) (k13 : PySem.W.keepIn K (.ref f13) = true)
    (a14 : PySem.W.nsIn K PySem.mainGlobals "need_numbers" = some (some (.ref f14))) (l14 : K.lookup f14 = some ⟨oc14, od14, .func (PySem.W.fnOf "need_numbers" "need_numbers" (defArgs s_need_numbers) (defBody s_need_numbers) (defScope s_need_numbers) .none kV14 dc14 pm14 an14 cd14 ct14), sl14⟩) (c14 : PySem.W.codeIn K cd14 "need_numbers" = true) (k14 : PySem.W.keepIn K (.ref f14) = true)
    (a15 : PySem.W.nsIn K PySem.mainGlobals "added_numbers" = some (some (.ref f15))) (l15 : K.lookup f15 = some ⟨oc15, od15, .func (PySem.W.fnOf "added_numbers" "added_numbers" (defArgs s_added_numbers) (defBody s_added_numbers) (defScope s_added_numbers) .none kV15 dc15 pm15 an15 cd15 ct15), sl15⟩) (c15 : PySem.W.codeIn K cd15 "added_numbers" = true) (k15 : PySem.W.keepIn K (.ref f15) = true)
    (a16 : PySem.W.nsIn K PySem.mainGlobals "multiplied_numbers" = some (some (.ref f16))) (l16 : K.lookup f16 = some ⟨oc16, od16, .func (PySem.W.fnOf "multiplied_numbers" "multiplied_numbers" (defArgs s_multiplied_numbers) (defBody s_multiplied_numbers) (defScope s_multiplied_numbers) .none kV16 dc16 pm16 an16 cd16 ct16), sl16⟩) (c16 : PySem.W.codeIn K cd16 "multiplied_numbers" = true) (k16 : PySem.W.keepIn K (.ref f16) = true)
    (a17 : PySem.W.nsIn K PySem.mainGlobals "_law_mixed" = some (some (.ref f17))) (l17 : K.lookup f17 = some ⟨oc17, od17, .func (PySem.W.fnOf "_law_mixed" "_law_mixed" (defArgs s__law_mixed) (defBody s__law_mixed) (defScope s__law_mixed) .none kV17 dc17 pm17 an17 cd17 ct17), sl17⟩) (c17 : PySem.W.codeIn K cd17 "_law_mixed" = true) (k17 : PySem.W.keepIn K (.ref f17) = true)
    (a18 : PySem.W.nsIn K PySem.mainGlobals "_law_folded" = some (some (.ref f18))) (l18 : K.lookup f18 = some ⟨oc18, od18, .func (PySem.W.fnOf "_law_folded" "_law_folded" (defArgs s__law_folded) (defBody s__law_folded) (defScope s__law_folded) .none kV18 dc18 pm18 an18 cd18 ct18), sl18⟩) (c18 : PySem.W.codeIn K cd18 "_law_folded" = true) (k18 : PySem.W.keepIn K (.ref f18) = true)
    (a19 : PySem.W.nsIn K PySem.mainGlobals "_law_draw" = some (some (.ref f19))) (l19 : K.lookup f19 = some ⟨oc19, od19, .func (PySem.W.fnOf "_law_draw" "_law_draw" (defArgs s__law_draw) (defBody s__law_draw) (defScope s__law_draw) .none kV19 dc19 pm19 an19 cd19 ct19), sl19⟩) (c19 : PySem.W.codeIn K cd19 "_law_draw" = true) (k19 : PySem.W.keepIn K (.ref f19) = true)
    (a20 : PySem.W.nsIn K PySem.mainGlobals "_law_begun" = some (some (.ref f20))) (l20 : K.lookup f20 = some ⟨oc20, od20, .func (PySem.W.fnOf "_law_begun" "_law_begun" (defArgs s__law_begun) (defBody s__law_begun) (defScope s__law_begun) .none kV20 dc20 pm20 an20 cd20 ct20), sl20⟩) (c20 : PySem.W.codeIn K cd20 "_law_begun" = true) (k20 : PySem.W.keepIn K (.ref f20) = true)
    (a21 : PySem.W.nsIn K PySem.mainGlobals "_law_of" = some (some (.ref f21))) (l21 : K.lookup f21 = some ⟨oc21, od21, .func (PySem.W.fnOf "_law_of" "_law_of" (defArgs s__law_of) (defBody s__law_of) (defScope s__law_of) .none kV21 dc21 pm21 an21 cd21 ct21), sl21⟩) (c21 : PySem.W.codeIn K cd21 "_law_of" = true) (k21 : PySem.W.keepIn K (.ref f21) = true)
    (a22 : PySem.W.nsIn K PySem.mainGlobals "_law_like" = some (some (.ref f22))) (l22 : K.lookup f22 = some ⟨oc22, od22, .func (PySem.W.fnOf "_law_like" "_law_like" (defArgs s__law_like) (defBody s__law_like) (defScope s__law_like) .none kV22 dc22 pm22 an22 cd22 ct22), sl22⟩) (c22 : PySem.W.codeIn K cd22 "_law_like" = true) (k22 : PySem.W.keepIn K (.ref f22) = true)
    (a23 : PySem.W.nsIn K PySem.mainGlobals "_law_is_whole" = some (some (.ref f23))) (l23 : K.lookup f23 = some ⟨oc23, od23, .func (PySem.W.fnOf "_law_is_whole" "_law_is_whole" (defArgs s__law_is_whole) (defBody s__law_is_whole) (defScope s__law_is_whole) .none kV23 dc23 pm23 an23 cd23 ct23), sl23⟩) (c23 : PySem.W.codeIn K cd23 "_law_is_whole" = true) (k23 : PySem.W.keepIn K (.ref f23) = true)
    (a24 : PySem.W.nsIn K PySem.mainGlobals "_law_are_whole" = some (some (.ref f24))) (l24 : K.lookup f24 = some ⟨oc24, od24, .func (PySem.W.fnOf "_law_are_whole" "_law_are_whole" (defArgs s__law_are_whole) (defBody s__law_are_whole) (defScope s__law_are_whole) .none kV24 dc24 pm24 an24 cd24 ct24), sl24⟩) (c24 : PySem.W.codeIn K cd24 "_law_are_whole" = true) (k24 : PySem.W.keepIn K (.ref f24) = true)
    (a25 : PySem.W.nsIn K PySem.mainGlobals "_law_lowest" = some (some (.ref f25))) (l25 : K.lookup f25 = some ⟨oc25, od25, .func (PySem.W.fnOf "_law_lowest" "_law_lowest" (defArgs s__law_lowest) (defBody s__law_lowest) (defScope s__law_lowest) .none kV25 dc25 pm25 an25 cd25 ct25), sl25⟩) (c25 : PySem.W.codeIn K cd25 "_law_lowest" = true) (k25 : PySem.W.keepIn K (.ref f25) = true)
    (a26 : PySem.W.nsIn K PySem.mainGlobals "_law_plus" = some (some (.ref f26))) (l26 : K.lookup f26 = some ⟨oc26, od26, .func (PySem.W.fnOf "_law_plus" "_law_plus" (defArgs s__law_plus) (defBody s__law_plus) (defScope s__law_plus) .none kV26 dc26 pm26 an26 cd26 ct26), sl26⟩) (c26 : PySem.W.codeIn K cd26 "_law_plus" = true) (k26 : PySem.W.keepIn K (.ref f26) = true)
    (a27 : PySem.W.nsIn K PySem.mainGlobals "_law_times" = some (some (.ref f27))) (l27 : K.lookup f27 = some ⟨oc27, od27, .func (PySem.W.fnOf "_law_times" "_law_times" (defArgs s__law_times) (defBody s__law_times) (defScope s__law_times) .none kV27 dc27 pm27 an27 cd27 ct27), sl27⟩) (c27 : PySem.W.codeIn K cd27 "_law_times" = true) (k27 : PySem.W.keepIn K (.ref f27) = true)
    (a28 : PySem.W.nsIn K PySem.mainGlobals "_law_unit" = some (some (.ref f28))) (l28 : K.lookup f28 = some ⟨oc28, od28, .func (PySem.W.fnOf "_law_unit" "_law_unit" (defArgs s__law_unit) (defBody s__law_unit) (defScope s__law_unit) .none kV28 dc28 pm28 an28 cd28 ct28), sl28⟩) (c28 : PySem.W.codeIn K cd28 "_law_unit" = true) (k28 : PySem.W.keepIn K (.ref f28) = true)
    (a29 : PySem.W.nsIn K PySem.mainGlobals "_law_drawn_way" = some (some (.ref f29))) (l29 : K.lookup f29 = some ⟨oc29, od29, .func (PySem.W.fnOf "_law_drawn_way" "_law_drawn_way" (defArgs s__law_drawn_way) (defBody s__law_drawn_way) (defScope s__law_drawn_way) .none kV29 dc29 pm29 an29 cd29 ct29), sl29⟩) (c29 : PySem.W.codeIn K cd29 "_law_drawn_way" = true) (k29 : PySem.W.keepIn K (.ref f29) = true)
    (a30 : PySem.W.nsIn K PySem.mainGlobals "_law_drawn_number" = some (some (.ref f30))) (l30 : K.lookup f30 = some ⟨oc30, od30, .func (PySem.W.fnOf "_law_drawn_number" "_law_drawn_number" (defArgs s__law_drawn_number) (defBody s__law_drawn_number) (defScope s__law_drawn_number) .none kV30 dc30 pm30 an30 cd30 ct30), sl30⟩) (c30 : PySem.W.codeIn K cd30 "_law_drawn_number" = true) (k30 : PySem.W.keepIn K (.ref f30) = true)
    (a31 : PySem.W.nsIn K PySem.mainGlobals "_law_vast" = some (some (.ref f31))) (l31 : K.lookup f31 = some ⟨oc31, od31, .func (PySem.W.fnOf "_law_vast" "_law_vast" (defArgs s__law_vast) (defBody s__law_vast) (defScope s__law_vast) .none kV31 dc31 pm31 an31 cd31 ct31), sl31⟩) (c31 : PySem.W.codeIn K cd31 "_law_vast" = true) (k31 : PySem.W.keepIn K (.ref f31) = true)
    (a32 : PySem.W.nsIn K PySem.mainGlobals "_law_number" = some (some (.ref f32))) (l32 : K.lookup f32 = some ⟨oc32, od32, .func (PySem.W.fnOf "_law_number" "_law_number" (defArgs s__law_number) (defBody s__law_number) (defScope s__law_number) .none kV32 dc32 pm32 an32 cd32 ct32), sl32⟩) (c32 : PySem.W.codeIn K cd32 "_law_number" = true) (k32 : PySem.W.keepIn K (.ref f32) = true)
    (a33 : PySem.W.nsIn K PySem.mainGlobals "_law_is_number" = some (some (.ref f33))) (l33 : K.lookup f33 = some ⟨oc33, od33, .func (PySem.W.fnOf "_law_is_number" "_law_is_number" (defArgs s__law_is_number) (defBody s__law_is_number) (defScope s__law_is_number) .none kV33 dc33 pm33 an33 cd33 ct33), sl33⟩) (c33 : PySem.W.codeIn K cd33 "_law_is_number" = true) (k33 : PySem.W.keepIn K (.ref f33) = true)
    (a34 : PySem.W.nsIn K PySem.mainGlobals "_law_refused" = some (some (.ref f34))) (l34 : K.lookup f34 = some ⟨oc34, od34, .func (PySem.W.fnOf "_law_refused" "_law_refused" (defArgs s__law_refused) (defBody s__law_refused) (defScope s__law_refused) .none kV34 dc34 pm34 an34 cd34 ct34), sl34⟩) (c34 : PySem.W.codeIn K cd34 "_law_refused" = true) (k34 : PySem.W.keepIn K (.ref f34) = true)
    (a35 : PySem.W.nsIn K PySem.mainGlobals "law" = some (some (.ref f35))) (l35 : K.lookup f35 = some ⟨oc35, od35, .func (PySem.W.fnOf "law" "law" (defArgs s_law) (defBody s_law) (defScope s_law) .none kV35 dc35 pm35 an35 (.ref c) ct35), sl35⟩) (c35 : PySem.W.codeIn K (.ref c) "law" = true) (k35 : PySem.W.keepIn K (.ref f35) = true)
    (n_len : PySem.W.nsIn K PySem.mainGlobals "len" = some none)
    (n_abs : PySem.W.nsIn K PySem.mainGlobals "abs" = some none)
    (n_min : PySem.W.nsIn K PySem.mainGlobals "min" = some none)
    (n_max : PySem.W.nsIn K PySem.mainGlobals "max" = some none)
    (n_int : PySem.W.nsIn K PySem.mainGlobals "int" = some none)
    (n_tuple : PySem.W.nsIn K PySem.mainGlobals "tuple" = some none)
    (n_list : PySem.W.nsIn K PySem.mainGlobals "list" = some none)
    (n_bool : PySem.W.nsIn K PySem.mainGlobals "bool" = some none)
    (n_str : PySem.W.nsIn K PySem.mainGlobals "str" = some none)
    (n_isinstance : PySem.W.nsIn K PySem.mainGlobals "isinstance" = some none)
    (n_range : PySem.W.nsIn K PySem.mainGlobals "range" = some none)
    (n_enumerate : PySem.W.nsIn K PySem.mainGlobals "enumerate" = some none)
    (n_zip : PySem.W.nsIn K PySem.mainGlobals "zip" = some none)
    (n_super : PySem.W.nsIn K PySem.mainGlobals "super" = some none) (n_opq : PySem.W.nsIn K PySem.cStatics "thirdparty.any" = some none)
    (g_WHETHER : PySem.W.nsIn K PySem.mainGlobals "WHETHER" = some (some (.str "whether" t_WHETHER)))
    (g_COUNT : PySem.W.nsIn K PySem.mainGlobals "COUNT" = some (some (.str "count" t_COUNT)))
    (g_CHANCE : PySem.W.nsIn K PySem.mainGlobals "CHANCE" = some (some (.str "chance" t_CHANCE)))
    (g_COST : PySem.W.nsIn K PySem.mainGlobals "COST" = some (some (.str "cost" t_COST)))
    (g_LEFT : PySem.W.nsIn K PySem.mainGlobals "LEFT" = some (some (.str "left" t_LEFT)))
    (g_MOST_LEFT : PySem.W.nsIn K PySem.mainGlobals "MOST_LEFT" = some (some (.int 1000 t_MOST_LEFT)))
    (i_gcd : PySem.W.nsIn K PySem.mainGlobals "gcd" = some (some (.builtin "math.gcd")))
    (aC_0 : PySem.W.nsIn K PySem.mainGlobals "BadNumber" = some (some (.ref C_0)))
    (xL_0 : K.lookup C_0 = some (excClassObj nmq_0 q_0 C_0 N_0 bs_0 bm_0 true sn_0 sub_0 ab_0 col_0 dd_0 k0_0 k1_0 k2_0 k3_0 k5_0 "ValueError.__new__")) (hbm_0 : HandSPX.refsVE bm_0 = true)
    (sa_0 : PySem.W.findIn K (.ref C_0) "__setattr__" = some (some (.builtin "object.__setattr__"))) (ga_0 : PySem.W.findIn K (.ref C_0) "__getattribute__" = some (some (.builtin "BaseException.__getattribute__"))) (gg_0 : PySem.W.findIn K (.ref C_0) "__getattr__" = some none) (noN_0 : PySem.W.findIn K (.ref C_0) "number" = some none)
    (kC_0 : PySem.W.keepIn K (.ref C_0) = true) (exC_0 : PySem.W.subIn K (.ref C_0) (.type "BaseException") = some true) (veC_0 : PySem.W.subIn K (.ref C_0) (.type "ValueError") = some true) (tyC_0 : PySem.W.typeIn K (.ref C_0) = some (.type "type")) (hdC_0 : PySem.W.hasDictIn K C_0 = true) (isC_0 : PySem.W.isClsIn K C_0 = true) (suC_0 : PySem.W.mroIn K C_0 (.ref C_0) = some true)
    (sup_0 : PySem.W.ks_superIn K C_0 C_0 "__init__" = some (some (.builtin "ValueError.__init__")))
    (i1_0 : PySem.W.findIn K (.ref C_0) "__init__" = some (some (.ref fI_0))) (i2_0 : PySem.W.typeIn K (.ref fI_0) = some (.type "function"))
    (i3_0 : K.lookup fI_0 = some ⟨oc_0, od_0, .func (PySem.W.ksFn "__init__" qn_0 (bdA "number" p1_0 p2_0) (bdB "number" "number" a0_0 a1_0 a2_0 a3_0 a4_0 a5_0 q1_0 q2_0 q3_0 q4_0) (bdS "number") .none .none doc_0 pm_0 an_0 (.ref cda_0) ct_0 cc_0), osl_0⟩) (i4_0 : PySem.W.codeIn K (.ref cda_0) qn_0 = true)
    (i5_0 : K.lookup cda_0 = some ⟨ccl_0, cdd_0, .fields vs_0, ccs_0⟩) (i6_0 : vs_0[2]? = some (.str fle_0 tf_0)) (i7_0 : ((prog.main.file : Str) == fle_0) = true) (i8_0 : K.lookup cc_0 = some ⟨cl_0, cld_0, .cell (some (.ref C_0)), csl_0⟩)
    (hev_0 : ∀ env : Env, ∃ pl : Sem Bool, eval (.Call (.Attribute (.Call (.Name (PySem.Str.ofString "super") a0_0) [] [] a1_0) (PySem.Str.ofString "__init__") a2_0) [.Name "number" a3_0] [] a4_0) env = (do
      let ov ← attributeBase (.Call (.Name (PySem.Str.ofString "super") a0_0) [] [] a1_0) (PySem.Str.ofString "__init__") env (eval (.Call (.Name (PySem.Str.ofString "super") a0_0) [] [] a1_0) env)
      standAt a2_0.atName
      let (f, first) ← holding [ov] (getMethod ov (PySem.Str.ofString "__init__") pl)
      callWith a4_0 f first (backTo a4_0 (starEach [.Name "number" a3_0] env)) []))
    (hsw_0 : ∀ env : Env, swapsWith (.Call (.Attribute (.Call (.Name (PySem.Str.ofString "super") a0_0) [] [] a1_0) (PySem.Str.ofString "__init__") a2_0) [.Name "number" a3_0] [] a4_0) none a5_0.line env = pure false)
    (hbd_0 : ∀ (x v : Value), bindArgs (PySem.W.ksFn "__init__" qn_0 (bdA "number" p1_0 p2_0) (bdB "number" "number" a0_0 a1_0 a2_0 a3_0 a4_0 a5_0 q1_0 q2_0 q3_0 q4_0) (bdS "number") .none .none doc_0 pm_0 an_0 (.ref cda_0) ct_0 cc_0) ⟨[x, v], []⟩ = pure [(PySem.Str.ofString "self", x), ("number", v)])
    (aC_1 : PySem.W.nsIn K PySem.mainGlobals "BadWay" = some (some (.ref C_1)))
    (xL_1 : K.lookup C_1 = some (excClassObj nmq_1 q_1 C_1 N_1 bs_1 bm_1 true sn_1 sub_1 ab_1 col_1 dd_1 k0_1 k1_1 k2_1 k3_1 k5_1 "ValueError.__new__")) (hbm_1 : HandSPX.refsVE bm_1 = true)
    (sa_1 : PySem.W.findIn K (.ref C_1) "__setattr__" = some (some (.builtin "object.__setattr__"))) (ga_1 : PySem.W.findIn K (.ref C_1) "__getattribute__" = some (some (.builtin "BaseException.__getattribute__"))) (gg_1 : PySem.W.findIn K (.ref C_1) "__getattr__" = some none) (noN_1 : PySem.W.findIn K (.ref C_1) "way" = some none)
    (kC_1 : PySem.W.keepIn K (.ref C_1) = true) (exC_1 : PySem.W.subIn K (.ref C_1) (.type "BaseException") = some true) (veC_1 : PySem.W.subIn K (.ref C_1) (.type "ValueError") = some true) (tyC_1 : PySem.W.typeIn K (.ref C_1) = some (.type "type")) (hdC_1 : PySem.W.hasDictIn K C_1 = true) (isC_1 : PySem.W.isClsIn K C_1 = true) (suC_1 : PySem.W.mroIn K C_1 (.ref C_1) = some true)
    (sup_1 : PySem.W.ks_superIn K C_1 C_1 "__init__" = some (some (.builtin "ValueError.__init__")))
    (i1_1 : PySem.W.findIn K (.ref C_1) "__init__" = some (some (.ref fI_1))) (i2_1 : PySem.W.typeIn K (.ref fI_1) = some (.type "function"))
    (i3_1 : K.lookup fI_1 = some ⟨oc_1, od_1, .func (PySem.W.ksFn "__init__" qn_1 (bdA "way" p1_1 p2_1) (bdB "way" "way" a0_1 a1_1 a2_1 a3_1 a4_1 a5_1 q1_1 q2_1 q3_1 q4_1) (bdS "way") .none .none doc_1 pm_1 an_1 (.ref cda_1) ct_1 cc_1), osl_1⟩) (i4_1 : PySem.W.codeIn K (.ref cda_1) qn_1 = true)
    (i5_1 : K.lookup cda_1 = some ⟨ccl_1, cdd_1, .fields vs_1, ccs_1⟩) (i6_1 : vs_1[2]? = some (.str fle_1 tf_1)) (i7_1 : ((prog.main.file : Str) == fle_1) = true) (i8_1 : K.lookup cc_1 = some ⟨cl_1, cld_1, .cell (some (.ref C_1)), csl_1⟩)
    (hev_1 : ∀ env : Env, ∃ pl : Sem Bool, eval (.Call (.Attribute (.Call (.Name (PySem.Str.ofString "super") a0_1) [] [] a1_1) (PySem.Str.ofString "__init__") a2_1) [.Name "way" a3_1] [] a4_1) env = (do
      let ov ← attributeBase (.Call (.Name (PySem.Str.ofString "super") a0_1) [] [] a1_1) (PySem.Str.ofString "__init__") env (eval (.Call (.Name (PySem.Str.ofString "super") a0_1) [] [] a1_1) env)
      standAt a2_1.atName
      let (f, first) ← holding [ov] (getMethod ov (PySem.Str.ofString "__init__") pl)
      callWith a4_1 f first (backTo a4_1 (starEach [.Name "way" a3_1] env)) []))
    (hsw_1 : ∀ env : Env, swapsWith (.Call (.Attribute (.Call (.Name (PySem.Str.ofString "super") a0_1) [] [] a1_1) (PySem.Str.ofString "__init__") a2_1) [.Name "way" a3_1] [] a4_1) none a5_1.line env = pure false)
    (hbd_1 : ∀ (x v : Value), bindArgs (PySem.W.ksFn "__init__" qn_1 (bdA "way" p1_1 p2_1) (bdB "way" "way" a0_1 a1_1 a2_1 a3_1 a4_1 a5_1 q1_1 q2_1 q3_1 q4_1) (bdS "way") .none .none doc_1 pm_1 an_1 (.ref cda_1) ct_1 cc_1) ⟨[x, v], []⟩ = pure [(PySem.Str.ofString "self", x), ("way", v)])
    (b21 : PySem.W.subIn K (.ref C_0) (.ref C_1) = some false) :
    ∃ K : PySem.W.Frag, K.In h ∧ LamX.LawAtS PySem.Challenge.rw_pairwhole_k20_whole_numbers_in_five_ways w K (L2.CX prog w) 9 63 "script" mg fa h := by
  have e := hfa.symm.trans (PySem.W.mg_of X G a35)
  cases e
  obtain ⟨v, hm, hr⟩ := LV.val _ (List.mem_cons_self)
  cases hr with
  | tuple hg hc hd hr =>
    rename_i a o its n
    obtain ⟨S, X', lo, nl⟩ := ext_one X hg
    have nP' := nl P nP (fun z => by
      subst z
      rw [hP] at hg
      cases hg
      cases hc)
    have ca : ∃ ca : Str → Addr, ca "BadNumber" = C_0 ∧ ca "BadWay" = C_1 := ⟨fun x => if x = "BadNumber" then C_0 else C_1, if_pos rfl, if_neg (by decide)⟩
    obtain ⟨ca, e1, e2⟩ := ca
    have T : Txt (K ++ [(a, o)]) mg ca :=
      { a_is_integer := at_mk S X G a0 l0 c0 k0 fun _ _ _ _ _ _ us hl => match us, hl with | [_], _ => rfl,
        a_is_within := at_mk S X G a1 l1 c1 k1 fun _ _ _ _ _ _ us hl => match us, hl with | [_, _, _], _ => rfl,
        a_is_tuple_of := at_mk S X G a2 l2 c2 k2 fun _ _ _ _ _ _ us hl => match us, hl with | [_, _], _ => rfl,
        a_is_way := at_mk S X G a3 l3 c3 k3 fun _ _ _ _ _ _ us hl => match us, hl with | [_], _ => rfl,
        a_need_way := at_mk S X G a4 l4 c4 k4 fun _ _ _ _ _ _ us hl => match us, hl with | [_], _ => rfl,
        a_fraction_of := at_mk S X G a5 l5 c5 k5 fun _ _ _ _ _ _ us hl => match us, hl with | [_, _], _ => rfl,
        a_is_fraction := at_mk S X G a6 l6 c6 k6 fun _ _ _ _ _ _ us hl => match us, hl with | [_], _ => rfl,
        a_is_number_in := at_mk S X G a7 l7 c7 k7 fun _ _ _ _ _ _ us hl => match us, hl with | [_, _], _ => rfl,
        a_one_in := at_mk S X G a8 l8 c8 k8 fun _ _ _ _ _ _ us hl => match us, hl with | [_], _ => rfl,
        a_left_by := at_mk S X G a9 l9 c9 k9 fun _ _ _ _ _ _ us hl => match us, hl with | [_, _], _ => rfl,
        a_added_by := at_mk S X G a10 l10 c10 k10 fun _ _ _ _ _ _ us hl => match us, hl with | [_, _, _], _ => rfl,
        a_multiplied_by := at_mk S X G a11 l11 c11 k11 fun _ _ _ _ _ _ us hl => match us, hl with | [_, _, _], _ => rfl,
        a_way_one := at_mk S X G a12 l12 c12 k12 fun _ _ _ _ _ _ us hl => match us, hl with | [_], _ => rfl,
        a_is_way_number := at_mk S X G a13 l13 c13 k13 fun _ _ _ _ _ _ us hl => match us, hl with | [_, _], _ => rfl,
        a_need_numbers := at_mk S X G a14 l14 c14 k14 fun _ _ _ _ _ _ us hl => match us, hl with | [_, _], _ => rfl,
        a_added_numbers := at_mk S X G a15 l15 c15 k15 fun _ _ _ _ _ _ us hl => match us, hl with | [_, _, _], _ => rfl,
        a_multiplied_numbers := at_mk S X G a16 l16 c16 k16 fun _ _ _ _ _ _ us hl => match us, hl with | [_, _, _], _ => rfl,
        a__law_mixed := at_mk S X G a17 l17 c17 k17 fun _ _ _ _ _ _ us hl => match us, hl with | [_, _], _ => rfl,
        a__law_folded := at_mk S X G a18 l18 c18 k18 fun _ _ _ _ _ _ us hl => match us, hl with | [_], _ => rfl,
        a__law_draw := at_mk S X G a19 l19 c19 k19 fun _ _ _ _ _ _ us hl => match us, hl with | [_, _], _ => rfl,
        a__law_begun := at_mk S X G a20 l20 c20 k20 fun _ _ _ _ _ _ us hl => match us, hl with | [_], _ => rfl,
        a__law_of := at_mk S X G a21 l21 c21 k21 fun _ _ _ _ _ _ us hl => match us, hl with | [_, _], _ => rfl,
        a__law_like := at_mk S X G a22 l22 c22 k22 fun _ _ _ _ _ _ us hl => match us, hl with | [_, _], _ => rfl,
        a__law_is_whole := at_mk S X G a23 l23 c23 k23 fun _ _ _ _ _ _ us hl => match us, hl with | [_], _ => rfl,
        a__law_are_whole := at_mk S X G a24 l24 c24 k24 fun _ _ _ _ _ _ us hl => match us, hl with | [_, _], _ => rfl,
        a__law_lowest := at_mk S X G a25 l25 c25 k25 fun _ _ _ _ _ _ us hl => match us, hl with | [_, _], _ => rfl,
        a__law_plus := at_mk S X G a26 l26 c26 k26 fun _ _ _ _ _ _ us hl => match us, hl with | [_, _, _], _ => rfl,
        a__law_times := at_mk S X G a27 l27 c27 k27 fun _ _ _ _ _ _ us hl => match us, hl with | [_, _, _], _ => rfl,
        a__law_unit := at_mk S X G a28 l28 c28 k28 fun _ _ _ _ _ _ us hl => match us, hl with | [_], _ => rfl,
        a__law_drawn_way := at_mk S X G a29 l29 c29 k29 fun _ _ _ _ _ _ us hl => match us, hl with | [_], _ => rfl,
        a__law_drawn_number := at_mk S X G a30 l30 c30 k30 fun _ _ _ _ _ _ us hl => match us, hl with | [_, _], _ => rfl,
        a__law_vast := at_mk S X G a31 l31 c31 k31 fun _ _ _ _ _ _ us hl => match us, hl with | [_], _ => rfl,
        a__law_number := at_mk S X G a32 l32 c32 k32 fun _ _ _ _ _ _ us hl => match us, hl with | [_, _], _ => rfl,
        a__law_is_number := at_mk S X G a33 l33 c33 k33 fun _ _ _ _ _ _ us hl => match us, hl with | [_, _], _ => rfl,
        a__law_refused := at_mk S X G a34 l34 c34 k34 fun _ _ _ _ _ _ us hl => match us, hl with | [_], _ => rfl,
        a_law := at_mk S X G a35 l35 c35 k35 fun _ _ _ _ _ _ us hl => match us, hl with | [_], _ => rfl,
        b_len := PySem.W.mg_none_of X G n_len,
        b_abs := PySem.W.mg_none_of X G n_abs,
        b_min := PySem.W.mg_none_of X G n_min,
        b_max := PySem.W.mg_none_of X G n_max,
        b_int := PySem.W.mg_none_of X G n_int,
        b_tuple := PySem.W.mg_none_of X G n_tuple,
        b_list := PySem.W.mg_none_of X G n_list,
        b_bool := PySem.W.mg_none_of X G n_bool,
        b_str := PySem.W.mg_none_of X G n_str,
        b_isinstance := PySem.W.mg_none_of X G n_isinstance,
        b_range := PySem.W.mg_none_of X G n_range,
        b_enumerate := PySem.W.mg_none_of X G n_enumerate,
        b_zip := PySem.W.mg_none_of X G n_zip,
        c_WHETHER := gl_str (PySem.W.mg_of X G g_WHETHER),
        c_COUNT := gl_str (PySem.W.mg_of X G g_COUNT),
        c_CHANCE := gl_str (PySem.W.mg_of X G g_CHANCE),
        c_COST := gl_str (PySem.W.mg_of X G g_COST),
        c_LEFT := gl_str (PySem.W.mg_of X G g_LEFT),
        c_PLAIN := loose_strs (xs := ["whether", "count", "chance", "cost"]) hm lo hc hd hr (by decide),
        c_MOST_LEFT := gl_int (PySem.W.mg_of X G g_MOST_LEFT),
        i_gcd := PySem.W.mg_of X G i_gcd,
        b_BadNumber := by rw [e1]; exact bad_mk S X G aC_0 xL_0 hbm_0 sa_0 ga_0 gg_0 noN_0 kC_0 exC_0 veC_0 tyC_0 hdC_0 suC_0 n_opq sup_0 n_super (by decide +kernel) (by decide) (by decide) i1_0 i2_0 i3_0 i4_0 i5_0 i6_0 i7_0 i8_0 hev_0 hsw_0 hbd_0,
        b_BadWay := by rw [e2]; exact bad_mk S X G aC_1 xL_1 hbm_1 sa_1 ga_1 gg_1 noN_1 kC_1 exC_1 veC_1 tyC_1 hdC_1 suC_1 n_opq sup_1 n_super (by decide +kernel) (by decide) (by decide) i1_1 i2_1 i3_1 i4_1 i5_1 i6_1 i7_1 i8_1 hev_1 hsw_1 hbd_1 }
    exact ⟨_, X', law_at T (by rw [e2]; exact exm_of (ext_subIn S exC_1) (ext_isClsIn S isC_1) (ext_typeIn S tyC_1) (ext_subIn S suC_1)) (by rw [e1, e2]; exact exm_of (ext_subIn S exC_1) (ext_isClsIn S isC_1) (ext_typeIn S tyC_1) (ext_subIn S b21)) (by rw [e1]; exact exm_of (ext_subIn S exC_0) (ext_isClsIn S isC_0) (ext_typeIn S tyC_0) (ext_subIn S suC_0)) (S _ _ l35) (ext_codeIn S c35) hP nP' hC⟩
end
end LK
end
section
set_option Elab.async false
set_option linter.all false
set_option maxRecDepth 100000
set_option autoImplicit false
/-! QZ: the head. -/
open PySem PySem.W PyProof.Rows
set_option maxRecDepth 100000 in
set_option maxHeartbeats 80000000 in
theorem PySem.Challenge.cw_pairwhole_k20_whole_numbers_in_five_ways_holds : PySem.Challenge.rw_pairwhole_k20_whole_numbers_in_five_ways.Holds := by
  w_on; o_law; k_head; (case hw => w_witness2)
  k_fill
  refine PL.walk_loose (l := PySem.Challenge.rw_pairwhole_k20_whole_numbers_in_five_ways) (n := 63) (k := 9) (CX := fun w => L2.CX LK.prog w) (x := "script") rfl (by decide) rfl ⟨rfl, by decide, by decide⟩ ?F ?hCX
  case hCX =>
    intro w H s e s' z
    obtain ⟨_, _, _, _, _, _, _, _, _, _, _, _, z⟩ := z
    exact z
  case F =>
    intro w mg fa h Y LV G hfa
    have X := km_in_of Y
    have TT := km_tabs_of Y
    refine' LK.law_all X G hfa LV (P := 337) (TT 337 (by simp)) ?nP ?hC ?a0 ?l0 ?c0 ?k0 ?a1 ?l1 ?c1 ?k1 ?a2 ?l2 ?c2 ?k2 ?a3 ?l3 ?c3 ?k3 ?a4 ?l4 ?c4 ?k4 ?a5 ?l5 ?c5 ?k5 ?a6 ?l6 ?c6 ?k6 ?a7 ?l7 ?c7 ?k7 ?a8 ?l8 ?c8 ?k8 ?a9 ?l9 ?c9 ?k9 ?a10 ?l10 ?c10 ?k10 ?a11 ?l11 ?c11 ?k11 ?a12 ?l12 ?c12 ?k12 ?a13 ?l13 ?c13 ?k13 ?a14 ?l14 ?c14 ?k14 ?a15 ?l15 ?c15 ?k15 ?a16 ?l16 ?c16 ?k16 ?a17 ?l17 ?c17 ?k17 ?a18 ?l18 ?c18 ?k18 ?a19 ?l19 ?c19 ?k19 ?a20 ?l20 ?c20 ?k20 ?a21 ?l21 ?c21 ?k21 ?a22 ?l22 ?c22 ?k22 ?a23 ?l23 ?c23 ?k23 ?a24 ?l24 ?c24 ?k24 ?a25 ?l25 ?c25 ?k25 ?a26 ?l26 ?c26 ?k26 ?a27 ?l27 ?c27 ?k27 ?a28 ?l28 ?c28 ?k28 ?a29 ?l29 ?c29 ?k29 ?a30 ?l30 ?c30 ?k30 ?a31 ?l31 ?c31 ?k31 ?a32 ?l32 ?c32 ?k32 ?a33 ?l33 ?c33 ?k33 ?a34 ?l34 ?c34 ?k34 ?a35 ?l35 ?c35 ?k35 ?n_len ?n_abs ?n_min ?n_max ?n_int ?n_tuple ?n_list ?n_bool ?n_str ?n_isinstance ?n_range ?n_enumerate ?n_zip ?n_super ?n_opq ?g_WHETHER ?g_COUNT ?g_CHANCE ?g_COST ?g_LEFT ?g_MOST_LEFT ?i_gcd ?aC_0 ?xL_0 ?hbm_0 ?sa_0 ?ga_0 ?gg_0 ?noN_0 ?kC_0 ?exC_0 ?veC_0 ?tyC_0 ?hdC_0 ?isC_0 ?suC_0 ?sup_0 ?i1_0 ?i2_0 ?i3_0 ?i4_0 ?i5_0 ?i6_0 ?i7_0 ?i8_0 ?hev_0 ?hsw_0 ?hbd_0 ?aC_1 ?xL_1 ?hbm_1 ?sa_1 ?ga_1 ?gg_1 ?noN_1 ?kC_1 ?exC_1 ?veC_1 ?tyC_1 ?hdC_1 ?isC_1 ?suC_1 ?sup_1 ?i1_1 ?i2_1 ?i3_1 ?i4_1 ?i5_1 ?i6_1 ?i7_1 ?i8_1 ?hev_1 ?hsw_1 ?hbd_1 ?b21
    (case a0 => k_is)
    (case l0 => k_is)
    (case c0 => k_is)
    (case k0 => k_is)
    (case a1 => k_is)
    (case l1 => k_is)
    (case c1 => k_is)
    (case k1 => k_is)
    (case a2 => k_is)
    (case l2 => k_is)
    (case c2 => k_is)
    (case k2 => k_is)
    (case a3 => k_is)
    (case l3 => k_is)
    (case c3 => k_is)
    (case k3 => k_is)
    (case a4 => k_is)
    (case l4 => k_is)
    (case c4 => k_is)
    (case k4 => k_is)
    (case a5 => k_is)
    (case l5 => k_is)
    (case c5 => k_is)
    (case k5 => k_is)
    (case a6 => k_is)
    (case l6 => k_is)
    (case c6 => k_is)
    (case k6 => k_is)
    (case a7 => k_is)
    (case l7 => k_is)
    (case c7 => k_is)
    (case k7 => k_is)
    (case a8 => k_is)
    (case l8 => k_is)
    (case c8 => k_is)
    (case k8 => k_is)
    (case a9 => k_is)
    (case l9 => k_is)
    (case c9 => k_is)
    (case k9 => k_is)
    (case a10 => k_is)
    (case l10 => k_is)
    (case c10 => k_is)
    (case k10 => k_is)
    (case a11 => k_is)
    (case l11 => k_is)
    (case c11 => k_is)
    (case k11 => k_is)
    (case a12 => k_is)
    (case l12 => k_is)
    (case c12 => k_is)
    (case k12 => k_is)
    (case a13 => k_is)
    (case l13 => k_is)
    (case c13 => k_is)
    (case k13 => k_is)
    (case a14 => k_is)
    (case l14 => k_is)
    (case c14 => k_is)
    (case k14 => k_is)
    (case a15 => k_is)
    (case l15 => k_is)
    (case c15 => k_is)
    (case k15 => k_is)
    (case a16 => k_is)
    (case l16 => k_is)
    (case c16 => k_is)
    (case k16 => k_is)
    (case a17 => k_is)
    (case l17 => k_is)
    (case c17 => k_is)
    (case k17 => k_is)
    (case a18 => k_is)
    (case l18 => k_is)
    (case c18 => k_is)
    (case k18 => k_is)
    (case a19 => k_is)
    (case l19 => k_is)
    (case c19 => k_is)
    (case k19 => k_is)
    (case a20 => k_is)
    (case l20 => k_is)
    (case c20 => k_is)
    (case k20 => k_is)
    (case a21 => k_is)
    (case l21 => k_is)
    (case c21 => k_is)
    (case k21 => k_is)
    (case a22 => k_is)
    (case l22 => k_is)
    (case c22 => k_is)
    (case k22 => k_is)
    (case a23 => k_is)
    (case l23 => k_is)
    (case c23 => k_is)
    (case k23 => k_is)
    (case a24 => k_is)
    (case l24 => k_is)
    (case c24 => k_is)
    (case k24 => k_is)
    (case a25 => k_is)
    (case l25 => k_is)
    (case c25 => k_is)
    (case k25 => k_is)
    (case a26 => k_is)
    (case l26 => k_is)
    (case c26 => k_is)
    (case k26 => k_is)
    (case a27 => k_is)
    (case l27 => k_is)
    (case c27 => k_is)
    (case k27 => k_is)
    (case a28 => k_is)
    (case l28 => k_is)
    (case c28 => k_is)
    (case k28 => k_is)
    (case a29 => k_is)
    (case l29 => k_is)
    (case c29 => k_is)
    (case k29 => k_is)
    (case a30 => k_is)
    (case l30 => k_is)
    (case c30 => k_is)
    (case k30 => k_is)
    (case a31 => k_is)
    (case l31 => k_is)
    (case c31 => k_is)
    (case k31 => k_is)
    (case a32 => k_is)
    (case l32 => k_is)
    (case c32 => k_is)
    (case k32 => k_is)
    (case a33 => k_is)
    (case l33 => k_is)
    (case c33 => k_is)
    (case k33 => k_is)
    (case a34 => k_is)
    (case l34 => k_is)
    (case c34 => k_is)
    (case k34 => k_is)
    (case a35 => k_is)
    (case l35 => k_is)
    (case c35 => k_is)
    (case k35 => k_is)
    (case n_len => k_is)
    (case n_abs => k_is)
    (case n_min => k_is)
    (case n_max => k_is)
    (case n_int => k_is)
    (case n_tuple => k_is)
    (case n_list => k_is)
    (case n_bool => k_is)
    (case n_str => k_is)
    (case n_isinstance => k_is)
    (case n_range => k_is)
    (case n_enumerate => k_is)
    (case n_zip => k_is)
    (case n_super => k_is)
    (case n_opq => k_is)
    (case g_WHETHER => k_is)
    (case g_COUNT => k_is)
    (case g_CHANCE => k_is)
    (case g_COST => k_is)
    (case g_LEFT => k_is)
    (case g_MOST_LEFT => k_is)
    (case i_gcd => k_is)
    (case aC_0 => k_is)
    (case xL_0 => k_is)
    (case hbm_0 => decide +kernel)
    (case sa_0 => k_is)
    (case ga_0 => k_is)
    (case gg_0 => k_is)
    (case noN_0 => k_is)
    (case kC_0 => k_is)
    (case exC_0 => k_is)
    (case veC_0 => k_is)
    (case tyC_0 => k_is)
    (case hdC_0 => k_is)
    (case isC_0 => k_is)
    (case suC_0 => k_is)
    (case sup_0 => kernel_rfl)
    (case i1_0 => k_is)
    (case i2_0 => k_is)
    (case i3_0 => k_is)
    (case i4_0 => k_is)
    (case i5_0 => k_is)
    (case i6_0 => exact rfl)
    (case i7_0 => decide +kernel)
    (case i8_0 => k_is)
    (case hev_0 => exact fun env => ⟨_, rfl⟩)
    (case hsw_0 => exact fun env => rfl)
    (case hbd_0 => exact fun x v => rfl)
    (case aC_1 => k_is)
    (case xL_1 => k_is)
    (case hbm_1 => decide +kernel)
    (case sa_1 => k_is)
    (case ga_1 => k_is)
    (case gg_1 => k_is)
    (case noN_1 => k_is)
    (case kC_1 => k_is)
    (case exC_1 => k_is)
    (case veC_1 => k_is)
    (case tyC_1 => k_is)
    (case hdC_1 => k_is)
    (case isC_1 => k_is)
    (case suC_1 => k_is)
    (case sup_1 => kernel_rfl)
    (case i1_1 => k_is)
    (case i2_1 => k_is)
    (case i3_1 => k_is)
    (case i4_1 => k_is)
    (case i5_1 => k_is)
    (case i6_1 => exact rfl)
    (case i7_1 => decide +kernel)
    (case i8_1 => k_is)
    (case hev_1 => exact fun env => ⟨_, rfl⟩)
    (case hsw_1 => exact fun env => rfl)
    (case hbd_1 => exact fun x v => rfl)
    (case b21 => k_is)
    (case nP => kernel_rfl)
    (case hC => exact codeHd_of_K X (by kernel_rfl))
end
