import Derived.Test.YtnehocjmgnhhhaaFo2
import Derived.Test.YtnehocjmgnhhhaaFli
/- Witness: Check: plain. -/
namespace Go.Proofs.Ytnehocjmgnhhhaa
open Go.RowKit
set_option linter.unusedVariables false
attribute [local irreducible] K.KW K.RW K.DW K.OW K.QR K.KC
/-- the state behind calls in an order; none: one cannot be -/
def runN (L : List CallM) : StM → List Int → Option StM
 | S, [] => some S
 | S, p :: r => if (nxtT S (L.getD p.toNat call0)).2 = true then runN L (nxtT S (L.getD p.toNat call0)).1 r else none
theorem drop_at {P : List Int} {j : Nat} (h : j < P.length) : P.drop j = P.getD j 0 :: P.drop (j + 1) := by
 rw [getD_at h]; exact List.drop_eq_getElem_cons h
theorem runN_y {L : List CallM} {S : StM} {P : List Int} {j : Nat} (h : j < P.length) (hn : (nxtT S (L.getD (P.getD j 0).toNat call0)).2 = true) : runN L S (P.drop j) = runN L (nxtT S (L.getD (P.getD j 0).toNat call0)).1 (P.drop (j + 1)) := by
 rw [drop_at h]; show (if _ then _ else _) = _
 rw [if_pos hn]
theorem runN_n {L : List CallM} {S : StM} {P : List Int} {j : Nat} (h : j < P.length) (hn : (nxtT S (L.getD (P.getD j 0).toNat call0)).2 = false) : runN L S (P.drop j) = none := by
 rw [drop_at h]; show (if _ then _ else _) = _
 rw [if_neg (by rw [hn]; simp)]
theorem runN_end {L : List CallM} {S : StM} {P : List Int} {j : Nat} (h : P.length ≤ j) : runN L S (P.drop j) = some S := by
 rw [List.drop_eq_nil_of_le h]; rfl
theorem isOrd.val {L : List CallM} {Q : List Int} (h : isOrd L Q) : valP L Q := fun i hi => by
 have := tookT_mem.1 ((h.1 _).1 (getD_mem hi)); exact ⟨this.1, this.2.1⟩
/-- the state of nothing -/
def st0 : StM := ⟨[], [], []⟩
end Go.Proofs.Ytnehocjmgnhhhaa
