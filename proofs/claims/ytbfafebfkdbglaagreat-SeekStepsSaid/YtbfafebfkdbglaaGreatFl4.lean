/- Layer 4: an act on both devices; are they one? -/
import Derived.Test.YtbfafebfkdbglaaGreatFrd3
namespace Go.Proofs.YtbfafebfkdbglaaGreat
open Go.RowKit
set_option linter.unusedVariables false
attribute [local irreducible] K.KW K.RW K.DW K.OW K.QR K.KC
/-- something that is done to a device -/
structure ActM where
 kind : Int
 thread : Int
 line : Int
 at_ : Int
 w : Int
def a0 : ActM := ⟨0, 0, 0, 0, 0⟩
def ActM.good (a : ActM) : Prop := isInt a.kind ∧ isInt a.thread ∧ isInt a.line ∧ isInt a.at_
theorem sameB_self (xs : List Int) : sameB xs xs = true := decide_eq_true rfl
theorem sameN_ok (a a' : Option Addr) (cap cap' n m : Nat) (xs ys : List Int) (w : World) (hm : n ≤ 9223372036854775807) (ln : xs.length = n) (lm : ys.length = m) (hx : K.RowE w a n 1 (fun i => cU64 (xs.getD i 0))) (hy : K.RowE w a' m 1 (fun i => cU64 (ys.getD i 0))) :
  K.KC Tryz.prog 89 #[.slice a n cap, .slice a' m cap'] w (fun v w' => v = .bool (sameB xs ys) ∧ K.Chg K.No w w') := by
 subst ln lm
 exact same_ok a a' cap cap' xs ys w hm hx hy
end Go.Proofs.YtbfafebfkdbglaaGreat
