import Derived.Test.YtnehocjmgnhhhaaDoorFrp3
import Derived.Test.YtnehocjmgnhhhaaDoorFsl
import Derived.Test.YtnehocjmgnhhhaaDoorFpl
/- Reports: a state read out of a text: plain. -/
namespace Go.Proofs.YtnehocjmgnhhhaaDoor
open Go.RowKit
set_option linter.unusedVariables false
attribute [local irreducible] K.KW K.RW K.DW K.OW K.QR K.KC
instance (x : Int) : Decidable (isU32 x) := inferInstanceAs (Decidable (_ ∧ _))
theorem dg_no {n : Nat} {c : UInt8} (hc : ¬ isD c) : ∀ y ∈ dg n, y ≠ c := fun y hy e => hc (e ▸ dgD n y hy)
theorem index_mid {a b : List UInt8} {c : UInt8} (h : ∀ y ∈ a, y ≠ c) : Lib.index (a ++ c :: b) [c] = (a.length : Nat) := by
  induction a with
  | nil => simp [Lib.index]
  | cons x r ih =>
    have ih := ih fun y hy => h y (by simp [hy])
    have hx := h x (by simp)
    rw [List.cons_append, Lib.index, if_neg (by simp [Ne.symm hx]), ih, if_neg (by first | (simp; done) | (simp; omega))]
    rfl
theorem cut_mid {a b : List UInt8} {c : UInt8} (h : ∀ y ∈ a, y ≠ c) : K.cutS c (a ++ c :: b) = (a, b, true) := by
  unfold K.cutS
  rw [index_mid h, if_pos (by omega), Int.toNat_natCast]
  simp
theorem jn_no {c d : UInt8} (hcd : d ≠ c) : ∀ {xs : List (List UInt8)}, (∀ x ∈ xs, ∀ y ∈ x, y ≠ c) → ∀ y ∈ K.jn d xs, y ≠ c
  | [], _ => by simp [K.jn]
  | [x], h => by simp only [K.jn]; exact h x (by simp)
  | x :: z :: r, h => by
    intro y hy
    have hy : y ∈ x ++ d :: K.jn d (z :: r) := hy
    rcases List.mem_append.1 hy with hy | hy
    · exact h x (by simp) y hy
    · rcases List.mem_cons.1 hy with rfl | hy
      · exact hcd
      · exact jn_no hcd (xs := z :: r) (fun q hq => h q (by simp [hq])) y hy
end Go.Proofs.YtnehocjmgnhhhaaDoor
