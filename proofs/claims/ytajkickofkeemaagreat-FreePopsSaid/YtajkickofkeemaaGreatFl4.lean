/- Layer 4: an act on both devices; are they one? -/
import Derived.Test.YtajkickofkeemaaGreatFrd3
namespace Go.Proofs.YtajkickofkeemaaGreat
open Go.RowKit
set_option linter.unusedVariables false
attribute [local irreducible] K.KW K.RW K.DW K.OW K.QR K.KC

/-- something that is done to a device -/
structure ActM where
 kind : Int
 thread : Int
 line : Int
 at_ : Int
 w : Int
def cAct (a : ActM) : List Value := [.int .i64 a.kind, .int .i64 a.thread, .int .i64 a.line, .int .i64 a.at_, .int .u64 a.w]
def a0 : ActM := ⟨0, 0, 0, 0, 0⟩
def ActM.good (a : ActM) : Prop := isInt a.kind ∧ isInt a.thread ∧ isInt a.line ∧ isInt a.at_
/-- the device behind it, and what it tells -/
def actR (D : DevM) (n t : Nat) (a : ActM) : DevM × Int × Int :=
 if a.kind = 0 then if ¬(0 ≤ a.thread ∧ a.thread < t) then (D, 0, 1) else if ¬(0 ≤ a.line ∧ a.line < n) then (D, 0, 5) else (D.mark a.thread.toNat a.line.toNat, 0, 0)
 else if a.kind = 1 then if ¬(0 ≤ a.thread ∧ a.thread < t) then (D, 0, 1) else (D.fence a.thread.toNat, 0, 0)
 else if a.kind = 2 then if ¬(0 ≤ a.line ∧ a.line < n) then (D, 0, 5) else (D.back a.line.toNat, 0, 0)
 else if a.kind = 3 then (D.crash, 0, 0)
 else if a.kind = 4 then if ¬(0 ≤ a.at_ ∧ a.at_ < n * 8) then (D, 0, 5) else (D, D.seen.getD a.at_.toNat 0, 0)
 else if ¬(0 ≤ a.at_ ∧ a.at_ < n * 8) then (D, 0, 5) else (D.store a.at_.toNat a.w, 0, 0)
theorem sameB_self (xs : List Int) : sameB xs xs = true := decide_eq_true rfl
theorem sameN_ok (a a' : Option Addr) (cap cap' n m : Nat) (xs ys : List Int) (w : World) (hm : n ≤ 9223372036854775807) (ln : xs.length = n) (lm : ys.length = m) (hx : K.RowE w a n 1 (fun i => cU64 (xs.getD i 0))) (hy : K.RowE w a' m 1 (fun i => cU64 (ys.getD i 0))) :
  K.KC Tryz.prog 58 #[.slice a n cap, .slice a' m cap'] w (fun v w' => v = .bool (sameB xs ys) ∧ K.Chg K.No w w') := by
 subst ln lm
 exact same_ok a a' cap cap' xs ys w hm hx hy
theorem truesF_app (A C : List Bool) : ∀ k, truesF k (A ++ C) = truesF k A ++ truesF (k + A.length) C := by
 induction A with
 | nil => intro k; rfl
 | cons b A ih =>
  intro k
  have := ih (k + 1)
  rw [show k + 1 + A.length = k + (b :: A).length by simp; omega] at this
  cases b with
  | true =>
   show (k : Int) :: truesF (k + 1) (A ++ C) = ((k : Int) :: truesF (k + 1) A) ++ _
   rw [this]; rfl
  | false => exact this
theorem trues_take (B : List Bool) {m : Nat} (h : m < B.length) : trues (B.take (m + 1)) = trues (B.take m) ++ (if B.getD m false then [(m : Int)] else []) := by
 rw [List.take_succ_eq_append_getElem h]
 unfold trues
 rw [truesF_app, List.length_take, Nat.min_eq_left (by omega), Nat.zero_add]
 have : B.getD m false = B[m] := by simp [h]
 rw [this]
 cases B[m] <;> rfl
theorem trues_at (B : List Bool) {m : Nat} (h : m < B.length) (hb : B.getD m false = true) : (trues (B.take m)).length < (trues B).length ∧ (trues B).getD (trues (B.take m)).length 0 = (m : Int) := by
 have e : trues B = trues (B.take m) ++ ((m : Int) :: truesF (m + 1) (B.drop (m + 1))) := by
  conv => lhs; rw [← List.take_append_drop (m + 1) B]
  unfold trues
  rw [truesF_app, List.length_take, Nat.min_eq_left (by omega), Nat.zero_add]
  have := trues_take B h
  unfold trues at this
  rw [this, hb]; simp
 rw [e]
 refine ⟨by simp, ?_⟩
 rw [List.getD_eq_getElem?_getD, List.getElem?_append_right (Nat.le_refl _), Nat.sub_self]; rfl
theorem trues_t {B : List Bool} {m k : Nat} (h : m < B.length) (hb : B.getD m false = true) (hk : k = (trues (B.take m)).length) : k + 1 = (trues (B.take (m + 1))).length := by rw [trues_take B h, hb, hk]; simp
theorem trues_f {B : List Bool} {m k : Nat} (h : m < B.length) (hb : B.getD m false = false) (hk : k = (trues (B.take m)).length) : k = (trues (B.take (m + 1))).length := by rw [trues_take B h, hb, hk]; simp

end Go.Proofs.YtajkickofkeemaaGreat
