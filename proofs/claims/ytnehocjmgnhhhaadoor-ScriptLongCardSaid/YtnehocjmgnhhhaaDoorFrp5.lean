import Derived.Test.YtnehocjmgnhhhaaDoorFrp4
/- Reports: Read. -/
namespace Go.Proofs.YtnehocjmgnhhhaaDoor
open Go.RowKit
set_option linter.unusedVariables false
attribute [local irreducible] K.KW K.RW K.DW K.OW K.QR K.KC
def u32R (x : Int) : Int := IntKind.u32.wrap x
/-- the call that words are -/
def rdW (W : List (List UInt8)) : CallM :=
  ⟨numR (W.getD 0 []) 63, K.ixS (W.getD 1 []) opNm, u32R (numR (W.getD 2 []) 4294967295), u32R (numR (W.getD 3 []) 4294967295), K.ixS (W.getD 4 []) resNm, u32R (numR (W.getD 5 []) 4294967295), whenR (W.getD 6 []), whenR (W.getD 8 []), whenR (W.getD 7 []), decide (¬ W.getD 9 [] = [45]), decide (W.getD 9 [] = [107, 101, 112, 116])⟩
/-- is each word what it has to be? -/
def isR (W : List (List UInt8)) : Bool :=
  ((((((((true && decide (0 ≤ numR (W.getD 0 []) 63)) && decide (0 ≤ K.ixS (W.getD 1 []) opNm ∧ ¬ W.getD 1 [] = [])) && decide (0 ≤ numR (W.getD 2 []) 4294967295)) && decide (0 ≤ numR (W.getD 3 []) 4294967295)) && decide (0 ≤ K.ixS (W.getD 4 []) resNm ∧ ¬ W.getD 4 [] = [])) && decide (0 ≤ numR (W.getD 5 []) 4294967295)) && decide (W.getD 6 [] = [45] ∨ 0 ≤ numR (W.getD 6 []) 1099511627776)) && decide (W.getD 7 [] = [45] ∨ 0 ≤ numR (W.getD 7 []) 1099511627776)) && decide (W.getD 8 [] = [45] ∨ 0 ≤ numR (W.getD 8 []) 1099511627776)
/-- is a line a call's? -/
def okR (l : List UInt8) : Prop := (K.spl 32 l).length = 10 ∧ isR (K.spl 32 l) = true ∧ endR (rdW (K.spl 32 l)) = (K.spl 32 l).getD 9 []
instance (l : List UInt8) : Decidable (okR l) := inferInstanceAs (Decidable (_ ∧ _))
end Go.Proofs.YtnehocjmgnhhhaaDoor
