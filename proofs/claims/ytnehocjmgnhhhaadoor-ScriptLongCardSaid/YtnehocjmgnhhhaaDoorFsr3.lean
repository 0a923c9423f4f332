import Derived.Test.YtnehocjmgnhhhaaDoorFsr
import Derived.Test.YtnehocjmgnhhhaaDoorFrp5
/- Reports: the document's Read. -/
namespace Go.Proofs.YtnehocjmgnhhhaaDoor
open Go.RowKit
set_option linter.unusedVariables false
attribute [local irreducible] K.KW K.RW K.DW K.OW K.QR K.KC
/-- the last place of so many at which a name stands -/
def lxF (x : List UInt8) (L : List (List UInt8)) (lo : Nat) (d : Int) : Nat → Int
  | 0 => d
  | r + 1 => if L.getD (lo + r) [] = x then ((lo + r : Nat) : Int) else lxF x L lo d r
/-- the call that a line's words are, as the document reads them -/
def rdT (W : List (List UInt8)) : CallM :=
  ⟨numR (W.getD 0 []) 63, lxF (W.getD 1 []) opNm 1 0 8, u32R (numR (W.getD 2 []) 4294967295), u32R (numR (W.getD 3 []) 4294967295), lxF (W.getD 4 []) resNm 0 (-1) 6, u32R (numR (W.getD 5 []) 4294967295), whenT (W.getD 6 []), whenT (W.getD 8 []), whenT (W.getD 7 []), decide (W.getD 9 [] = [99, 114, 97, 115, 104, 101, 100]) || decide (W.getD 9 [] = [107, 101, 112, 116]), decide (W.getD 9 [] = [107, 101, 112, 116])⟩
def okT (l : List UInt8) : Prop := (K.spl 32 l).length = 10 ∧ 0 ≤ numR ((K.spl 32 l).getD 0 []) 63 ∧ 0 ≤ numR ((K.spl 32 l).getD 2 []) 4294967295 ∧ 0 ≤ numR ((K.spl 32 l).getD 3 []) 4294967295 ∧ 0 ≤ numR ((K.spl 32 l).getD 5 []) 4294967295 ∧ (rdT (K.spl 32 l)).may ∧ lineR (rdT (K.spl 32 l)) = l
instance (l : List UInt8) : Decidable (okT l) := inferInstanceAs (Decidable (_ ∧ _))
end Go.Proofs.YtnehocjmgnhhhaaDoor
