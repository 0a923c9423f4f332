/- slices and cmp over int: Less, BinarySearch, Insert; Clone over int and lines. -/
import Derived.Lib.Overlaps
import Derived.Laws.Externs
import Derived.Test.YtajkickofkeemaaFsl
import Derived.Test.YtajkickofkeemaaKv
import Derived.Test.YtajkickofkeemaaFlin2
import Derived.Test.YtajkickofkeemaaKn
namespace Go.Proofs.Ytajkickofkeemaa
open Go.RowKit
set_option linter.unusedVariables false
attribute [local irreducible] K.KW K.RW K.DW K.OW K.QR K.KC
set_option maxHeartbeats 1000000 in
set_option maxRecDepth 100000 in
theorem cloneL_ok (a : Option Addr) (cap : Nat) (xs : List (List Int)) (w0 : World) (hm : xs.length ≤ 1000000000) (hx : RLn w0 a xs) :
  K.KC Try.prog 97 #[.slice a xs.length cap] w0 (fun v w' => ∃ r c, v = .slice r xs.length c ∧ K.Chg K.No w0 w' ∧ K.Own w' w0.heap.size 158 8 r xs.length c ((xs).flatMap cLine)) := by
 refine K.KC.mk (n := 8) Try.func97 rfl rfl [.slice a xs.length cap] rfl rfl ?_
 refine K.s ?_
 -- region 0 slices.go:355
 refine K.g ?_
 refine K.a (K.QR.k (v := .slice none 0 0) (by kernel_rfl)) ?_
 refine K.z (K.t (K.s (K.s ?_)))
 -- region 1 slices.go:357
 refine K.g ?_
 refine K.a (K.QR.k (v := .slice a xs.length cap) (by kernel_rfl)) ?_
 rcases Option.eq_none_or_eq_some a with rfl | ⟨p, hp⟩
 ·
  refine K.a (K.QR.eqNil rfl rfl rfl Try.underlying141) ?_
  refine K.z (K.t (K.h (K.s ?_)))
  -- region 2 slices.go:358
  refine K.g ?_
  refine K.a (K.QR.k (v := .slice none 0 0) (by kernel_rfl)) ?_
  refine K.z (K.t (K.r (K.u ?_)))
  refine ⟨.inr rfl, rfl, (.slice none 0 0), K.res1 rfl rfl, ?_⟩
  obtain ⟨rfl⟩ : xs = [] := by rcases hx with h | ⟨_, _, h, _⟩ <;> first | exact List.eq_nil_of_length_eq_zero h | cases h
  exact ⟨_, _, rfl, (K.Chg.refl _), K.Own.nil _ _ _ _⟩
 ·
  subst hp
  refine K.a (K.QR.eqNil rfl rfl rfl Try.underlying141) ?_
  refine K.z (K.t (K.f (K.k (K.t (K.s ?_)))))
  -- region 3 slices.go:362
  refine K.g ?_
  refine K.l (K.OW.bs rfl [] [] rfl rfl (fun w => K.bs_run0 (P := Try.prog) w 141 158 0 _ _ Try.underlying141 (by kernel_rfl)) ?_)
  intro w_1 r_2 hr_3 e_4 hs_5 b_6
  have c_7 := e_4
  have z_8 := c_7.size
  have zz_9 := e_4.size
  refine K.a (K.QR.k (v := .slice (some p) xs.length cap) (by kernel_rfl)) ?_
  refine K.l (K.OW.appR (P := Try.prog) (c := cLine) (L := []) (L2 := xs) (z := .agg #[.int .u64 0, .int .u64 0, .int .u64 0, .int .u64 0, .int .u64 0, .int .u64 0, .int .u64 0, .int .u64 0]) (size := 8) (bytes := 64) rfl ([] : List Int) rfl rfl (K.Own.of_blkL (size := 8) (base := w0.heap.size) (n := 0) (c := cLine) (L := []) b_6 (by omega) rfl (by unfold maxLen; omega) (fun _ => rfl) rfl) rfl Try.underlying141 (by kernel_rfl) rfl (by decide) rfl (hx.no c_7) (fun _ => rfl) (fun _ => K.one_cells rfl) (by unfold maxLen; omega) (by omega) (by omega) ?_)
  intro a_10 cap_11 w_12 e_13 o_14 hn_15
  have c_16 := c_7.trans e_13 (fun i hi hy => absurd ((K.Own.of_blkL (size := 8) (base := w0.heap.size) (n := 0) (c := cLine) (L := []) b_6 (by omega) rfl (by unfold maxLen; omega) (fun _ => rfl) rfl).base_le i hy) (by omega))
  have z_17 := c_16.size
  have zz_18 := e_13.size
  have ln_19 : (([] ++ xs)).length = 0 + xs.length := by simp
  refine K.a (K.QR.k (v := .slice a_10 (0 + xs.length) cap_11) (by kernel_rfl)) ?_
  refine K.z (K.t (K.r ?_))
  refine ⟨.inr rfl, rfl, (.slice a_10 (0 + xs.length) cap_11), K.res1 rfl rfl, ?_⟩
  have h0 : 0 + xs.length = xs.length := Nat.zero_add _
  exact ⟨a_10, cap_11, by rw [h0], c_16, by rw [h0] at *; simpa using o_14⟩
end Go.Proofs.Ytajkickofkeemaa
