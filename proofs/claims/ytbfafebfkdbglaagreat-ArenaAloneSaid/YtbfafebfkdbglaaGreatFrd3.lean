import Derived.Test.YtbfafebfkdbglaaGreatFrd2
import Derived.Test.YtbfafebfkdbglaaGreatFlist
/- The document's device: what it does. -/
namespace Go.Proofs.YtbfafebfkdbglaaGreat
open Go.RowKit
set_option linter.unusedVariables false
attribute [local irreducible] K.KW K.RW K.DW K.OW K.QR K.KC
def backsTo (p : Nat → Bool) (j : Nat) (D : DevM) : DevM := (List.range j).foldl (fun D x => if p x then D.back x else D) D
section
variable {p : Nat → Bool} {D : DevM} {j n t : Nat}
theorem backsTo_succ : backsTo p (j + 1) D = if p j then (backsTo p j D).back j else backsTo p j D := by unfold backsTo; rw [List.range_succ, List.foldl_append]; rfl
theorem backsTo_ok (h : D.ok n t) : ∀ j, j ≤ n → (backsTo p j D).ok n t
 | 0, _ => h
 | j + 1, hj => by
  rw [backsTo_succ]
  split
  ·exact (backsTo_ok h j (by omega)).back (by omega)
  ·exact backsTo_ok h j (by omega)
end
/-- the lines of a set, one behind the other, are those that it names -/
theorem foldl_trues (D : DevM) : ∀ (B : List Bool) (k : Nat), (truesF k B).foldl (fun D x => D.back x.toNat) D = (List.range B.length).foldl (fun D x => if B.getD x false then D.back (k + x) else D) D := by
 intro B
 induction B generalizing D with
 | nil => intro k; rfl
 | cons b B ih =>
  intro k
  rw [List.length_cons, List.range_succ_eq_map, List.foldl_cons, List.foldl_map]
  have e : (List.foldl (fun (D : DevM) (x : Nat) => if (b :: B).getD (Nat.succ x) false = true then D.back (k + Nat.succ x) else D)) = (List.foldl (fun (D : DevM) (x : Nat) => if B.getD x false = true then D.back (k + 1 + x) else D)) := by
   congr 1; funext D x
   rw [show k + Nat.succ x = k + 1 + x by omega]; rfl
  rw [e]
  unfold truesF
  cases b with
  | true => exact ih _ (k + 1)
  | false => exact ih _ (k + 1)
theorem foldl_clear (t : Nat) (B : List Bool) : ∀ (l : List Int) (D : DevM), l.foldl (fun D x => D.back x.toNat) (D.set t B) = (l.foldl (fun D x => D.back x.toNat) D).set t B
 | [], _ => rfl
 | x :: l, D => foldl_clear t B l (D.back x.toNat)
theorem fence_eq (D : DevM) (t : Nat) : D.fence t = (backsTo (fun x => (D.flush.getD t []).getD x false) (D.flush.getD t []).length D).set t (List.replicate (D.flush.getD t []).length false) := by
 unfold DevM.fence DevM.clear backsTo trues
 rw [foldl_clear, foldl_trues]
 simp
section
variable {c : Nat → Bool} {q m n : Nat} {fl : List (List Bool)} {B : List Bool} {b : Bool}
theorem getD_set_self {α : Type} {l : List α} {k : Nat} {x d : α} (h : k < l.length) : (l.set k x).getD k d = x := by simp [h]
end
end Go.Proofs.YtbfafebfkdbglaaGreat
