import Derived.Test.YtnehocjmgnhhhaaFsx
import Derived.Test.YtnehocjmgnhhhaaKf
/- Witness: the search: plain. -/
namespace Go.Proofs.Ytnehocjmgnhhhaa
open Go.RowKit
set_option linter.unusedVariables false
attribute [local irreducible] K.KW K.RW K.DW K.OW K.QR K.KC
instance (a b : CallM) : Decidable (aheadH a b) := inferInstanceAs (Decidable (_ ∧ _))
instance (L : List CallM) (U : List Bool) (i : Nat) : Decidable (mayS L U i) := inferInstanceAs (Decidable (_ ∧ _))
instance (L : List CallM) (U : List Bool) : Decidable (overS L U) := inferInstanceAs (Decidable (∀ k, k < L.length → ¬ (U.getD k false = false ∧ (L.getD k call0).cr = false)))
/-- may a call be taken next? -/
def goS (L : List CallM) (S : StM) (U : List Bool) (i : Nat) : Prop := mayS L U i ∧ (nxtT S (L.getD i call0)).2 = true ∧ ¬ ((L.getD i call0).cr = true ∧ (L.getD i call0).wh = -1)
instance (L : List CallM) (S : StM) (U : List Bool) (i : Nat) : Decidable (goS L S U i) := inferInstanceAs (Decidable (_ ∧ _))
/-- the states that the orders of a history end in, so many calls from the end -/
def endsN (L : List CallM) : Nat → StM → List Bool → List StM
 | 0, _, _ => []
 | f + 1, S, U => ((List.range L.length).flatMap fun i => if goS L S U i then endsN L f (nxtT S (L.getD i call0)).1 (U.set i true) else []) ++ if overS L U then [S] else []
/-- those of the first so many choices -/
def endsI (L : List CallM) (f : Nat) (S : StM) (U : List Bool) (j : Nat) : List StM := (List.range j).flatMap fun i => if goS L S U i then endsN L f (nxtT S (L.getD i call0)).1 (U.set i true) else []
theorem endsI_y {L : List CallM} {f : Nat} {S : StM} {U : List Bool} {j : Nat} (h : goS L S U j) : endsI L f S U (j + 1) = endsI L f S U j ++ endsN L f (nxtT S (L.getD j call0)).1 (U.set j true) := by
 unfold endsI; rw [List.range_succ, List.flatMap_append]; simp [h]
theorem endsI_n {L : List CallM} {f : Nat} {S : StM} {U : List Bool} {j : Nat} (h : ¬ goS L S U j) : endsI L f S U (j + 1) = endsI L f S U j := by
 unfold endsI; rw [List.range_succ, List.flatMap_append]; simp [h]
theorem ends_over {L : List CallM} {f : Nat} {S : StM} {U : List Bool} (h : overS L U) : endsN L (f + 1) S U = endsI L f S U L.length ++ [S] := by
 show _ ++ (if overS L U then [S] else []) = _
 rw [if_pos h]; rfl
theorem ends_open {L : List CallM} {f : Nat} {S : StM} {U : List Bool} (h : ¬ overS L U) : endsN L (f + 1) S U = endsI L f S U L.length := by
 show _ ++ (if overS L U then [S] else []) = _
 rw [if_neg h, List.append_nil]; rfl
theorem count_set {U : List Bool} : ∀ {i : Nat}, i < U.length → U.getD i false = false → (U.set i true).count false + 1 = U.count false := by
 induction U with
 | nil => intro i h; simp at h
 | cons a r ih =>
  intro i hi h
  cases i with
  | zero =>
   have h : a = false := h
   subst h; simp
  | succ i =>
   have := ih (i := i) (by simpa using hi) (by simpa using h)
   rw [List.set_cons_succ, List.count_cons, List.count_cons]; omega
theorem set_back {U : List Bool} {i : Nat} (hi : i < U.length) (h : U.getD i false = false) : (U.set i true).set i false = U := by
 rw [List.set_set]
 refine List.ext_getElem (by simp) fun j h1 h2 => ?_
 rw [List.getElem_set]
 split
 ·rename_i e; subst e
  simpa [hi] using h.symm
 ·rfl
theorem goodS.nxt {k : Nat} {S : StM} {c : CallM} (h : goodS k S) : goodS (k + 1) (nxtT S c).1 := by
 unfold nxtT
 split
 ·unfold alwT
  split
  ·exact h.le (by omega)
  ·split
   ·exact h.apply
   ·split
    ·exact h.le (by omega)
    ·exact h.le (by omega)
 ·exact h.apply
theorem endsI_pre {L : List CallM} {f : Nat} {S : StM} {U : List Bool} {i j : Nat} (h : i ≤ j) : endsI L f S U i <+: endsI L f S U j := by
 unfold endsI
 obtain ⟨d, rfl⟩ : ∃ d, j = i + d := ⟨j - i, by omega⟩
 rw [List.range_add, List.flatMap_append]
 exact List.prefix_append _ _
theorem ends_pre {L : List CallM} {f : Nat} {S : StM} {U : List Bool} : endsI L f S U L.length <+: endsN L (f + 1) S U := List.prefix_append _ _
theorem pre_in {L : List CallM} {f : Nat} {S : StM} {U : List Bool} {done Dt : List StM} {j : Nat} (hp : (done ++ endsN L (f + 1) S U) <+: Dt) (hj : j < L.length) (h : goS L S U j) : ((done ++ endsI L f S U j) ++ endsN L f (nxtT S (L.getD j call0)).1 (U.set j true)) <+: Dt := by
 rw [List.append_assoc, ← endsI_y h]
 exact ((List.prefix_append_right_inj done).2 ((endsI_pre hj).trans ends_pre)).trans hp
/-- yield is called with a state that can be read in g, and turns m alone -/
def YldS (P : Program) (w0 : World) (l : Nat) (Dt : List StM) (J : List StM → K.Cs → K.Cs → Prop) (E : K.Cs → K.Cs → Prop) : Prop :=
 ∀ (done : List StM) (g m : K.Cs) (q s mm : Option Addr) (cq cs cm : Nat) (S : StM), J done g m → RdSt w0 g q s mm cq S → goodS 1000000 S → (done ++ [S]) <+: Dt →
  K.YGb P w0 l [stA q cq s cs mm cm S] [g, m].flatten (fun b M' => (b = true ∧ ∃ m', M' = [g, m'].flatten ∧ J (done ++ [S]) g m') ∨ (b = false ∧ ∃ m', M' = [g, m'].flatten ∧ E g m'))
/-- what is said of the group that is read stays true when it grows -/
def JGrow (w0 : World) (J : K.Cs → K.Cs → Prop) : Prop := ∀ g g' m, J g m → Grow w0 g g' → J g' m
/-- what the search answers -/
def TryR (w0 : World) (bu : Option Addr) (cu : Nat) (U : List Bool) (gb gx g : K.Cs) (J : List StM → K.Cs → K.Cs → Prop) (E : K.Cs → K.Cs → Prop) (D : List StM) (v : Value) (post : List K.Cs) : Prop :=
 ∃ gu' g' m', post = [gb, gu', gx, g', m'] ∧ K.OwnG gu' 4 1 bu U.length cu (U.flatMap cBool) ∧ Grow w0 g g' ∧ ((v = .bool true ∧ J D g' m') ∨ (v = .bool false ∧ E g' m'))
end Go.Proofs.Ytnehocjmgnhhhaa

/- A region that may yield: an operation that is not wanted. -/
namespace Go.Proofs.Ytnehocjmgnhhhaa
open Go.RowKit
set_option linter.unusedVariables false
namespace K
section
variable {P : Program} {n : Nat} {Q : Exit → Fr → World → Prop} {F : Fr} {w : World}
theorem RY.skip {ops : Array Oper} {o : Oper} {rest : List Oper} {d : Option Nat} (hd : o.dst = d) (hg : gs ops n F o = true) (h : RY P n ops rest Q (updo F d undef) w) (ha : o.about P w (ev n F) = none := by rfl) : RY P n ops (o :: rest) Q F w := by
  subst hd
  obtain ⟨hg, hok⟩ := gs_spec hg
  unfold RY
  refine wpListIn_skip ?_ ?_ ?_
  · rw [wanted_fr]; exact hg
  · rw [eval_fr]; exact ha
  · rw [put_fr _ _ _ _ hok]; exact h
end
end K
end Go.Proofs.Ytnehocjmgnhhhaa
