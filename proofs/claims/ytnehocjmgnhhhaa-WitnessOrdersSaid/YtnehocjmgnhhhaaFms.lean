import Derived.Test.YtnehocjmgnhhhaaFmod
/- ModelSames: which states are alike. -/
namespace Go.Proofs.Ytnehocjmgnhhhaa
open Go.RowKit
set_option linter.unusedVariables false
attribute [local irreducible] K.KW K.RW K.DW K.OW K.QR K.KC
theorem eqRes_t {a0 a1 b0 b1 : Int} (h : a0 = b0 ∧ a1 = b1) (w : World) : (Op.equal 49 (.agg #[.int .i64 a0, .int .u32 a1]) (.agg #[.int .i64 b0, .int .u32 b1])).run Try.prog w = .ok true w := by
  obtain ⟨rfl, rfl⟩ := h
  simp [go_sem, Op.equal, Op.maxDepth]
theorem eqRes_f {a0 a1 b0 b1 : Int} (h : ¬ (a0 = b0 ∧ a1 = b1)) (w : World) : (Op.equal 49 (.agg #[.int .i64 a0, .int .u32 a1]) (.agg #[.int .i64 b0, .int .u32 b1])).run Try.prog w = .ok false w := by
  by_cases h0 : a0 = b0 <;> by_cases h1 : a1 = b1 <;> first | (exfalso; exact h ⟨h0, h1⟩) | simp [go_sem, Op.equal, Op.maxDepth, h0, h1]
end Go.Proofs.Ytnehocjmgnhhhaa
