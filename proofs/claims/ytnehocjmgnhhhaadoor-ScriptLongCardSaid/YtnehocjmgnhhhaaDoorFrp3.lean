import Derived.Test.YtnehocjmgnhhhaaDoorFrp2
/- Reports: the line of a call. -/
namespace Go.Proofs.YtnehocjmgnhhhaaDoor
open Go.RowKit
set_option linter.unusedVariables false
attribute [local irreducible] K.KW K.RW K.DW K.OW K.QR K.KC
structure CallM where
  th : Int
  ok : Int
  key : Int
  val : Int
  rk : Int
  rv : Int
  beg : Int
  en : Int
  wh : Int
  cr : Bool
  kp : Bool
deriving DecidableEq
def isI64 (x : Int) : Prop := -9223372036854775808 ≤ x ∧ x ≤ 9223372036854775807
/-- a call's numbers may be: those of the kinds of its fields -/
def CallM.fits (c : CallM) : Prop := isI64 c.th ∧ isI64 c.ok ∧ (0 ≤ c.key ∧ c.key ≤ 4294967295) ∧ (0 ≤ c.val ∧ c.val ≤ 4294967295) ∧ isI64 c.rk ∧ (0 ≤ c.rv ∧ c.rv ≤ 4294967295) ∧ isI64 c.beg ∧ isI64 c.en ∧ isI64 c.wh
def CallM.nums (c : CallM) : Prop := (1 ≤ c.ok ∧ c.ok ≤ 8) ∧ (0 ≤ c.rk ∧ c.rk ≤ 5) ∧ (-1 ≤ c.beg ∧ c.beg ≤ 1099511627776) ∧ (-1 ≤ c.wh ∧ c.wh ≤ 1099511627776) ∧ (-1 ≤ c.en ∧ c.en ≤ 1099511627776) ∧ (0 ≤ c.th ∧ c.th ≤ 63)
/-- a call that may be written -/
def CallM.may (c : CallM) : Prop := c.nums ∧ (c.cr = true ∨ c.kp = false)
instance (c : CallM) : Decidable c.nums := inferInstanceAs (Decidable (_ ∧ _))
instance (c : CallM) : Decidable c.may := inferInstanceAs (Decidable (_ ∧ _))
def opNm : List (List UInt8) := [[], [101, 110, 113], [100, 101, 113], [97, 100, 100], [100, 101, 108], [104, 97, 115], [112, 117, 116], [103, 101, 116], [99, 117, 116]]
def resNm : List (List UInt8) := [[110, 111, 110, 101], [111, 107], [101, 109, 112, 116, 121], [116, 104, 101, 114, 101], [103, 111, 110, 101], [102, 117, 108, 108]]
def endR (c : CallM) : List UInt8 := if c.kp = true then [107, 101, 112, 116] else if c.cr = true then [99, 114, 97, 115, 104, 101, 100] else [45]
/-- a call's words -/
def wordsR (c : CallM) : List (List UInt8) := [dgR c.th, opNm.getD c.ok.toNat [], dgR c.key, dgR c.val, resNm.getD c.rk.toNat [], dgR c.rv, dgR c.beg, dgR c.wh, dgR c.en, endR c]
def lineR (c : CallM) : List UInt8 := K.jn 32 (wordsR c)
theorem opNm_len (k : Nat) : (opNm.getD k []).length ≤ 3 := by
  rcases Nat.lt_or_ge k 9 with h | h
  · revert k; decide
  · rw [List.getD_eq_getElem?_getD, List.getElem?_eq_none (by simpa [opNm] using h)]; simp
end Go.Proofs.YtnehocjmgnhhhaaDoor
