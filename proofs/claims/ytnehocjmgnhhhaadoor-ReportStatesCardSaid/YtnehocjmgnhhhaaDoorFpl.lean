import Derived.Test.YtnehocjmgnhhhaaDoorFsr3
/- Reports: what is read of a line, by the code and by the document: the plain law. -/
namespace Go.Proofs.YtnehocjmgnhhhaaDoor
open Go.RowKit
set_option linter.unusedVariables false
attribute [local irreducible] K.KW K.RW K.DW K.OW K.QR K.KC
/-- a number that was written is read so -/
theorem numR_dgR {n m : Int} (h0 : 0 ≤ n) (h : n ≤ m) (hm : m ≤ 1099511627776) : numR (dgR n) m = n := by
  obtain ⟨k, rfl⟩ : ∃ k : Nat, n = k := ⟨n.toNat, by omega⟩
  rw [dgR_nat h0, Int.toNat_natCast]
  unfold numR
  rw [valdg, if_neg]
  rintro (e | e | e | e | e)
  · have := dg_pos k; rw [e] at this; simp at this
  · have := dg_len 12 k (by omega); omega
  · exact dg_lead k e
  · exact e (dgD k)
  · omega
theorem u32R_of {x : Int} (h : 0 ≤ x) (h2 : x ≤ 4294967295) : u32R x = x := IntWalk.u32_in x ⟨h, h2⟩
end Go.Proofs.YtnehocjmgnhhhaaDoor
