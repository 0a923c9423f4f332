/- Contract: lines.Zero. -/
import Derived.Test.YtgeihjiichdpbaaFlin4
namespace Go.Proofs.Ytgeihjiichdpbaa
open Go.RowKit
set_option linter.unusedVariables false
attribute [local irreducible] K.KW K.RW K.DW K.OW K.QR K.KC

set_option maxHeartbeats 1000000 in
set_option maxRecDepth 100000 in
theorem zero_ok (n : Int) (w0 : World) (hn : -9223372036854775808 ≤ n ∧ n ≤ 9223372036854775807) :
    K.KC Try.prog 80 #[.int .i64 n] w0 (fun v w' => ∃ a, v = .slice a (zc n) (zc n) ∧ K.Chg K.No w0 w' ∧ K.Own w' w0.heap.size 148 8 a (zc n) (zc n) ((zeroL (zc n)).flatMap cLine)) := by
  have hzc := zc_le n
  refine K.KC.mk (n := 9) Try.func80 rfl rfl [.int .i64 n] rfl rfl ?_
  refine K.KW.seq ?_
  -- region 0 lines.go:118
  refine K.KW.region ?_
  refine K.RW.q rfl rfl (K.QR.k (v := .slice none 0 0) (by kernel_rfl)) ?_
  refine K.RW.nil ?_
  refine K.thn_normal ?_
  refine K.KW.seq ?_
  -- region 1 lines.go:119
  refine K.KW.region ?_
  refine K.RW.q rfl rfl (K.QR.bd [] [.int .u64 0, .int .u64 0, .int .u64 0, .int .u64 0, .int .u64 0, .int .u64 0, .int .u64 0, .int .u64 0] rfl rfl (by kernel_rfl)) ?_
  refine K.RW.l rfl (K.OW.bs rfl [(0, .agg #[.int .u64 0, .int .u64 0, .int .u64 0, .int .u64 0, .int .u64 0, .int .u64 0, .int .u64 0, .int .u64 0])] [.int .u64 0, .int .u64 0, .int .u64 0, .int .u64 0, .int .u64 0, .int .u64 0, .int .u64 0, .int .u64 0] rfl rfl (fun w => K.bs_run (P := Try.prog) w 116 148 1 _ _ Try.underlying116 (by kernel_rfl)) ?_) 
  intro w_1 r_2 hr_3 e_4 hs_5 b_6
  have c_7 := e_4
  have z_8 := c_7.size
  have zz_9 := e_4.size
  refine K.RW.q rfl rfl (K.QR.k (v := .int .i64 n) (by kernel_rfl)) ?_
  by_cases h_10 : (n : Int) < (0 : Int)
  ·  -- yes
    refine K.RW.q rfl rfl (K.QR.max2 0 rfl rfl rfl (by omega)) ?_
    refine K.RW.q rfl rfl (K.QR.turn (v := .int .i64 0) (K.QR.k (v := .int .i64 0) (by kernel_rfl)) (congrArg (Value.int .i64) (show (0 : Int) = (((zc n : Nat) : Int) : Int) from by unfold zc; omega))) ?_
    refine K.RW.l rfl (K.OW.call rfl [.slice (some ⟨r_2, 0, none⟩) 1 1, .int .i64 ((zc n : Nat) : Int)] rfl rfl (by kernel_rfl) (repeat_ok _ (zc n) _ (by omega) (K.Blk.rowE (c := cLine) ([] : List Int) (L := [([0, 0, 0, 0, 0, 0, 0, 0] : List Int)]) b_6 (fun _ => rfl) rfl)) ?_) 
    rintro _ w_14 ⟨r_11, rfl, c_12, o_13⟩
    have c_15 := c_7.no c_12
    have z_16 := c_15.size
    have zz_17 := c_12.size
    have f_18 := b_6.no c_12
    have ap_19 : ∀ k, K.Ow r_11 k → ¬ k = r_2 := fun k hk he => absurd (K.Own.base_le o_13 k hk) (by have := K.Blk.lt b_6; omega)
    have o_20 := K.Own.mono (base' := w0.heap.size) o_13 (by omega)
    refine K.RW.q rfl rfl (K.QR.k (v := .slice r_11 (zc n) (zc n)) (by kernel_rfl)) ?_
    refine K.RW.nil ?_
    refine K.thn_normal ?_
    refine K.KW.ret ?_
    refine ⟨.inr rfl, rfl, (.slice r_11 (zc n) (zc n)), K.res1 rfl rfl, ?_⟩
    exact ⟨_, rfl, c_15, o_20⟩
  ·  -- no
    refine K.RW.q rfl rfl (K.QR.max2 n rfl rfl rfl (by omega)) ?_
    by_cases h_21 : (262144 : Int) < (n : Int)
    ·  -- yes
      refine K.RW.q rfl rfl (K.QR.turn (v := .int .i64 262144) (K.QR.min2 262144 rfl rfl rfl (by omega)) (congrArg (Value.int .i64) (show (262144 : Int) = (((zc n : Nat) : Int) : Int) from by unfold zc; omega))) ?_
      refine K.RW.l rfl (K.OW.call rfl [.slice (some ⟨r_2, 0, none⟩) 1 1, .int .i64 ((zc n : Nat) : Int)] rfl rfl (by kernel_rfl) (repeat_ok _ (zc n) _ (by omega) (K.Blk.rowE (c := cLine) ([] : List Int) (L := [([0, 0, 0, 0, 0, 0, 0, 0] : List Int)]) b_6 (fun _ => rfl) rfl)) ?_) 
      rintro _ w_25 ⟨r_22, rfl, c_23, o_24⟩
      have c_26 := c_7.no c_23
      have z_27 := c_26.size
      have zz_28 := c_23.size
      have f_29 := b_6.no c_23
      have ap_30 : ∀ k, K.Ow r_22 k → ¬ k = r_2 := fun k hk he => absurd (K.Own.base_le o_24 k hk) (by have := K.Blk.lt b_6; omega)
      have o_31 := K.Own.mono (base' := w0.heap.size) o_24 (by omega)
      refine K.RW.q rfl rfl (K.QR.k (v := .slice r_22 (zc n) (zc n)) (by kernel_rfl)) ?_
      refine K.RW.nil ?_
      refine K.thn_normal ?_
      refine K.KW.ret ?_
      refine ⟨.inr rfl, rfl, (.slice r_22 (zc n) (zc n)), K.res1 rfl rfl, ?_⟩
      exact ⟨_, rfl, c_26, o_31⟩
    ·  -- no
      refine K.RW.q rfl rfl (K.QR.turn (v := .int .i64 n) (K.QR.min2 n rfl rfl rfl (by omega)) (congrArg (Value.int .i64) (show (n : Int) = (((zc n : Nat) : Int) : Int) from by unfold zc; omega))) ?_
      refine K.RW.l rfl (K.OW.call rfl [.slice (some ⟨r_2, 0, none⟩) 1 1, .int .i64 ((zc n : Nat) : Int)] rfl rfl (by kernel_rfl) (repeat_ok _ (zc n) _ (by omega) (K.Blk.rowE (c := cLine) ([] : List Int) (L := [([0, 0, 0, 0, 0, 0, 0, 0] : List Int)]) b_6 (fun _ => rfl) rfl)) ?_) 
      rintro _ w_35 ⟨r_32, rfl, c_33, o_34⟩
      have c_36 := c_7.no c_33
      have z_37 := c_36.size
      have zz_38 := c_33.size
      have f_39 := b_6.no c_33
      have ap_40 : ∀ k, K.Ow r_32 k → ¬ k = r_2 := fun k hk he => absurd (K.Own.base_le o_34 k hk) (by have := K.Blk.lt b_6; omega)
      have o_41 := K.Own.mono (base' := w0.heap.size) o_34 (by omega)
      refine K.RW.q rfl rfl (K.QR.k (v := .slice r_32 (zc n) (zc n)) (by kernel_rfl)) ?_
      refine K.RW.nil ?_
      refine K.thn_normal ?_
      refine K.KW.ret ?_
      refine ⟨.inr rfl, rfl, (.slice r_32 (zc n) (zc n)), K.res1 rfl rfl, ?_⟩
      exact ⟨_, rfl, c_36, o_41⟩

end Go.Proofs.Ytgeihjiichdpbaa
