/- LinesZero: so many lines of noughts. -/
import Derived.Test.YtcmlompigmhddaaFlin4
import Derived.Test.YtcmlompigmhddaaLli
namespace Go.Proofs.Ytcmlompigmhddaa
open Go.RowKit
set_option linter.unusedVariables false
attribute [local irreducible] K.KW K.RW K.DW K.OW K.QR K.KC

set_option maxHeartbeats 1000000 in
set_option maxRecDepth 100000 in
theorem zero_ok (n : Int) (w0 : World) (hn : -9223372036854775808 ≤ n ∧ n ≤ 9223372036854775807) :
    K.KC Try.prog 40 #[.int .i64 n] w0 (fun v w' => ∃ a, v = .slice a (zc n) (zc n) ∧ K.Chg K.No w0 w' ∧ K.Own w' w0.heap.size 24 8 a (zc n) (zc n) ((zeroL (zc n)).flatMap cLine)) := by
  have hzc := zc_le n
  refine K.KC.mk (n := 9) Try.func40 rfl rfl [.int .i64 n] rfl rfl ?_
  refine K.KW.seq ?_
  -- region 0 lines.go:118
  refine K.KW.region ?_
  refine K.RW.q rfl rfl (K.QR.k (v := .slice none 0 0) (by kernel_rfl)) ?_
  refine K.RW.nil ?_
  refine K.thn_normal ?_
  refine K.KW.seq ?_
  -- region 1 lines.go:119
  refine K.KW.region ?_
  refine K.RW.q rfl rfl (K.QR.bd [] [.int .u64 0, .int .u64 0, .int .u64 0, .int .u64 0, .int .u64 0, .int .u64 0, .int .u64 0, .int .u64 0] rfl rfl (by kernel_rfl)) ?_
  refine K.RW.l rfl (K.OW.bs rfl [(0, .agg #[.int .u64 0, .int .u64 0, .int .u64 0, .int .u64 0, .int .u64 0, .int .u64 0, .int .u64 0, .int .u64 0])] [.int .u64 0, .int .u64 0, .int .u64 0, .int .u64 0, .int .u64 0, .int .u64 0, .int .u64 0, .int .u64 0] rfl rfl (fun w => K.bs_run (P := Try.prog) w 36 24 1 _ _ Try.underlying36 (by kernel_rfl)) ?_) 
  intro w_1 r_2 hr_3 e_4 hs_5 b_6
  have c_7 := e_4
  have z_8 := c_7.size
  have zz_9 := e_4.size
  refine K.RW.q rfl rfl (K.QR.k (v := .int .i64 n) (by kernel_rfl)) ?_
  by_cases h_10 : (n : Int) < (0 : Int)
  ·  -- yes
    refine K.RW.q rfl rfl (K.QR.max2 0 rfl rfl rfl (by omega)) ?_
    refine K.RW.q rfl rfl (K.QR.turn (v := .int .i64 0) (K.QR.k (v := .int .i64 0) (by kernel_rfl)) (congrArg (Value.int .i64) (show (0 : Int) = (((zc n : Nat) : Int) : Int) from by unfold zc; omega))) ?_
    refine K.RW.l rfl (K.OW.call rfl [.slice (some ⟨r_2, 0, none⟩) 1 1, .int .i64 ((zc n : Nat) : Int)] rfl rfl (by kernel_rfl) (repeat_ok _ (zc n) _ (by omega) (K.Blk.rowE (c := cLine) ([] : List Int) (L := [([0, 0, 0, 0, 0, 0, 0, 0] : List Int)]) b_6 (fun _ => rfl) rfl)) ?_) 
    rintro _ w_14 ⟨r_11, rfl, c_12, o_13⟩
    have c_15 := c_7.no c_12
    have z_16 := c_15.size
    have zz_17 := c_12.size
    have f_18 := b_6.no c_12
    have o_19 := K.Own.mono (base' := w0.heap.size) o_13 (by omega)
    refine K.RW.q rfl rfl (K.QR.k (v := .slice r_11 (zc n) (zc n)) (by kernel_rfl)) ?_
    refine K.RW.nil ?_
    refine K.thn_normal ?_
    refine K.KW.ret ?_
    refine ⟨.inr rfl, rfl, (.slice r_11 (zc n) (zc n)), K.res1 rfl rfl, ?_⟩
    exact ⟨_, rfl, c_15, o_19⟩
  ·  -- no
    refine K.RW.q rfl rfl (K.QR.max2 n rfl rfl rfl (by omega)) ?_
    by_cases h_20 : (262144 : Int) < (n : Int)
    ·  -- yes
      refine K.RW.q rfl rfl (K.QR.turn (v := .int .i64 262144) (K.QR.min2 262144 rfl rfl rfl (by omega)) (congrArg (Value.int .i64) (show (262144 : Int) = (((zc n : Nat) : Int) : Int) from by unfold zc; omega))) ?_
      refine K.RW.l rfl (K.OW.call rfl [.slice (some ⟨r_2, 0, none⟩) 1 1, .int .i64 ((zc n : Nat) : Int)] rfl rfl (by kernel_rfl) (repeat_ok _ (zc n) _ (by omega) (K.Blk.rowE (c := cLine) ([] : List Int) (L := [([0, 0, 0, 0, 0, 0, 0, 0] : List Int)]) b_6 (fun _ => rfl) rfl)) ?_) 
      rintro _ w_24 ⟨r_21, rfl, c_22, o_23⟩
      have c_25 := c_7.no c_22
      have z_26 := c_25.size
      have zz_27 := c_22.size
      have f_28 := b_6.no c_22
      have o_29 := K.Own.mono (base' := w0.heap.size) o_23 (by omega)
      refine K.RW.q rfl rfl (K.QR.k (v := .slice r_21 (zc n) (zc n)) (by kernel_rfl)) ?_
      refine K.RW.nil ?_
      refine K.thn_normal ?_
      refine K.KW.ret ?_
      refine ⟨.inr rfl, rfl, (.slice r_21 (zc n) (zc n)), K.res1 rfl rfl, ?_⟩
      exact ⟨_, rfl, c_25, o_29⟩
    ·  -- no
      refine K.RW.q rfl rfl (K.QR.turn (v := .int .i64 n) (K.QR.min2 n rfl rfl rfl (by omega)) (congrArg (Value.int .i64) (show (n : Int) = (((zc n : Nat) : Int) : Int) from by unfold zc; omega))) ?_
      refine K.RW.l rfl (K.OW.call rfl [.slice (some ⟨r_2, 0, none⟩) 1 1, .int .i64 ((zc n : Nat) : Int)] rfl rfl (by kernel_rfl) (repeat_ok _ (zc n) _ (by omega) (K.Blk.rowE (c := cLine) ([] : List Int) (L := [([0, 0, 0, 0, 0, 0, 0, 0] : List Int)]) b_6 (fun _ => rfl) rfl)) ?_) 
      rintro _ w_33 ⟨r_30, rfl, c_31, o_32⟩
      have c_34 := c_7.no c_31
      have z_35 := c_34.size
      have zz_36 := c_31.size
      have f_37 := b_6.no c_31
      have o_38 := K.Own.mono (base' := w0.heap.size) o_32 (by omega)
      refine K.RW.q rfl rfl (K.QR.k (v := .slice r_30 (zc n) (zc n)) (by kernel_rfl)) ?_
      refine K.RW.nil ?_
      refine K.thn_normal ?_
      refine K.KW.ret ?_
      refine ⟨.inr rfl, rfl, (.slice r_30 (zc n) (zc n)), K.res1 rfl rfl, ?_⟩
      exact ⟨_, rfl, c_34, o_38⟩

theorem cutLong_ok (a : Option Addr) (cap n : Nat) (xs : List Int) (w0 : World) (hn : xs.length = n) (h8 : n % 8 = 0) (hl : 262144 < n / 8) (hm : n * 64 ≤ 140737488351232) (hc : n ≤ cap) (hx : K.RowE w0 a n 1 (fun i => cU64 (xs.getD i 0))) :
    K.KC Try.prog 21 #[.slice a n cap] w0 (fun v w' => ∃ r m c, v = .tuple #[.slice r m c, .int .i64 2] ∧ K.Chg K.No w0 w') := by
  subst hn
  refine (cut_ok a cap xs w0 hm hc hx).mono fun v w h => ?_
  obtain ⟨r, m, c, h1, h2, _⟩ := h
  have h3 : mayR xs.length 8 = 2 := by unfold mayR; rw [if_pos h8, if_pos (by omega)]
  rw [h3] at h1
  exact ⟨r, m, c, h1, h2⟩

set_option maxHeartbeats 1000000 in
set_option maxRecDepth 100000 in
theorem linZ_ok (n : Int) (u : Nat) (w0 : World) (hn : -9223372036854775808 ≤ n ∧ n ≤ 9223372036854775807) (hy : u ≤ 255) :
    K.KC Try.prog 9 #[.int .i64 n, .int .u8 ((u : Nat) : Int)] w0 (fun v w' => v = .bool true ∧ K.Chg K.No w0 w') := by
  have hz300 : zc 300 = 300 := by decide
  have hzn : zc n = (min (max n 0) 262144).toNat := rfl
  have hzu : zc ((262144 + u : Nat) : Int) = 262144 := by unfold zc; omega
  refine K.KC.mk (n := 54) Try.func9 rfl rfl [.int .i64 n, .int .u8 ((u : Nat) : Int)] rfl rfl ?_
  refine K.KW.seq ?_
  -- region 0 law.go:89
  refine K.KW.region ?_
  refine K.RW.q rfl rfl (K.QR.k (v := .bool false) (by kernel_rfl)) ?_
  refine K.RW.nil ?_
  refine K.thn_normal ?_
  refine K.KW.seq ?_
  refine K.KW.seq ?_
  -- region 1 law.go:90
  refine K.KW.region ?_
  refine K.RW.q rfl rfl (K.QR.k (v := .int .i64 n) (by kernel_rfl)) ?_
  by_cases h_1 : (n : Int) > (300 : Int)
  ·  -- yes
    refine K.RW.q rfl rfl (K.QR.nice (v := .bool (decide ((n : Int) > (300 : Int)))) (by kernel_rfl) (congrArg Value.bool (decide_eq_true h_1))) ?_
    refine K.RW.nil ?_
    refine K.thn_normal ?_
    refine K.KW.ifT rfl ?_
    -- region 2 law.go:91
    refine K.KW.region ?_
    refine K.RW.q rfl rfl (K.QR.k (v := .int .i64 300) (by kernel_rfl)) ?_
    refine K.RW.nil ?_
    refine K.thn_normal ?_
    refine K.KW.seq ?_
    -- region 3 law.go:93
    refine K.KW.region ?_
    refine K.RW.q rfl rfl (K.QR.k (v := .int .i64 300) (by kernel_rfl)) ?_
    refine K.RW.l rfl (K.OW.call rfl [.int .i64 300] rfl rfl (by kernel_rfl) (zero_ok 300 _ (by omega)) ?_) 
    rintro _ w_5 ⟨r_2, rfl, c_3, o_4⟩
    have c_6 := c_3
    have z_7 := c_6.size
    have zz_8 := c_3.size
    have o_9 := K.Own.mono (base' := w0.heap.size) o_4 (by omega)
    refine K.RW.q rfl rfl (K.QR.k (v := .slice r_2 (zc 300) (zc 300)) (by kernel_rfl)) ?_
    refine K.RW.nil ?_
    refine K.thn_normal ?_
    refine K.KW.seq ?_
    refine K.KW.seq ?_
    -- region 4 law.go:94
    refine K.KW.region ?_
    refine K.RW.q rfl rfl (K.QR.k (v := .int .i64 0) (by kernel_rfl)) ?_
    refine K.RW.nil ?_
    refine K.thn_normal ?_
    refine K.KW.block ?_
    refine K.KW.loop (fun m_ F_ w_10 => ∃ (i : Nat), m_ = (zc 300) - i ∧ K.Sl F_ [(0, .int .i64 300), (1, .int .u8 ((u : Nat) : Int)), (5, .slice r_2 (zc 300) (zc 300)), (6, .int .i64 ((i : Nat) : Int)), (54, undef)] ∧ i ≤ (zc 300) ∧ K.Chg K.No w0 w_10 ∧ K.Own w_10 w0.heap.size 24 8 r_2 (zc 300) (zc 300) (((zeroL (zc 300))).flatMap cLine)) ((fun (i : Nat) => (zc 300) - i) 0) ?_ ?_
    · -- the loop begins
      exact ⟨0, rfl, ⟨by rfl, by rfl, by rfl, by rfl, by rfl, trivial⟩, (by omega), c_6, o_9⟩
    · -- a round
      intro m_12 F_13 w_10 hI
      obtain ⟨i, rfl, sl_14, p_16, c_15, f_17⟩ := hI
      rw [← K.Sl.puts sl_14]; clear sl_14
      have z_18 := c_15.size
      refine K.KW.seq ?_
      refine K.KW.seq ?_
      -- region 5 law.go:94
      refine K.KW.region ?_
      refine K.RW.q rfl rfl (K.QR.k (v := .int .i64 ((i : Nat) : Int)) (by kernel_rfl)) ?_
      refine K.RW.q rfl rfl (K.QR.k (v := .slice r_2 (zc 300) (zc 300)) (by kernel_rfl)) ?_
      refine K.RW.q rfl rfl (K.QR.len (P := Try.prog) rfl rfl Try.underlying36) ?_
      by_cases h_19 : (((i : Nat) : Int) : Int) < ((((zc 300) : Nat) : Int) : Int)
      ·  -- yes
        refine K.RW.q rfl rfl (K.QR.nice (v := .bool (decide ((((i : Nat) : Int) : Int) < ((((zc 300) : Nat) : Int) : Int)))) (by kernel_rfl) (congrArg Value.bool (decide_eq_true h_19))) ?_
        refine K.RW.nil ?_
        refine K.thn_normal ?_
        refine K.KW.ifT rfl ?_
        refine K.KW.skip ?_
        refine K.thn_normal ?_
        refine K.KW.seq ?_
        refine K.KW.block ?_
        refine K.KW.seq ?_
        -- region 7 law.go:95
        obtain ⟨b_20, rfl, gb_22, gl_23⟩ := f_17.some_ (by omega)
        refine K.KW.region ?_
        refine K.RW.q rfl rfl (K.QR.k (v := .slice (some ⟨b_20, 0, none⟩) (zc 300) (zc 300)) (by kernel_rfl)) ?_
        refine K.RW.q rfl rfl (K.QR.k (v := .int .i64 ((i : Nat) : Int)) (by kernel_rfl)) ?_
        refine K.RW.q rfl rfl (K.QR.ix (0 + i * 8) 8 rfl rfl rfl Try.underlying36 (by kernel_rfl) (by omega) (by first | (simp; done) | omega | (simp; omega))) ?_
        refine K.RW.q rfl rfl (K.QR.ldN [.int .u64 (((zeroL (zc 300)).getD i ([] : List Int)).getD 0 0), .int .u64 (((zeroL (zc 300)).getD i ([] : List Int)).getD 1 0), .int .u64 (((zeroL (zc 300)).getD i ([] : List Int)).getD 2 0), .int .u64 (((zeroL (zc 300)).getD i ([] : List Int)).getD 3 0), .int .u64 (((zeroL (zc 300)).getD i ([] : List Int)).getD 4 0), .int .u64 (((zeroL (zc 300)).getD i ([] : List Int)).getD 5 0), .int .u64 (((zeroL (zc 300)).getD i ([] : List Int)).getD 6 0), .int .u64 (((zeroL (zc 300)).getD i ([] : List Int)).getD 7 0)] rfl rfl (by kernel_rfl) (by kernel_rfl) (K.cells (K.cl ((K.Own.rowE ([] : List Int) f_17 (zeroL_len _) (fun _ => rfl)).ld i (by omega) 0 _ rfl) (K.cl ((K.Own.rowE ([] : List Int) f_17 (zeroL_len _) (fun _ => rfl)).ld i (by omega) 1 _ rfl) (K.cl ((K.Own.rowE ([] : List Int) f_17 (zeroL_len _) (fun _ => rfl)).ld i (by omega) 2 _ rfl) (K.cl ((K.Own.rowE ([] : List Int) f_17 (zeroL_len _) (fun _ => rfl)).ld i (by omega) 3 _ rfl) (K.cl ((K.Own.rowE ([] : List Int) f_17 (zeroL_len _) (fun _ => rfl)).ld i (by omega) 4 _ rfl) (K.cl ((K.Own.rowE ([] : List Int) f_17 (zeroL_len _) (fun _ => rfl)).ld i (by omega) 5 _ rfl) (K.cl ((K.Own.rowE ([] : List Int) f_17 (zeroL_len _) (fun _ => rfl)).ld i (by omega) 6 _ rfl) (K.cl ((K.Own.rowE ([] : List Int) f_17 (zeroL_len _) (fun _ => rfl)).ld i (by omega) 7 _ rfl) K.cl0)))))))))) ?_
        refine K.RW.q rfl rfl (K.QR.bd [] [.int .u64 0, .int .u64 0, .int .u64 0, .int .u64 0, .int .u64 0, .int .u64 0, .int .u64 0, .int .u64 0] rfl rfl (by kernel_rfl)) ?_
        refine K.RW.q rfl rfl (K.QR.neS (by kernel_rfl) rfl rfl rfl (eqLine_t (⟨zero_line _ _ 0, zero_line _ _ 1, zero_line _ _ 2, zero_line _ _ 3, zero_line _ _ 4, zero_line _ _ 5, zero_line _ _ 6, zero_line _ _ 7⟩))) ?_
        refine K.RW.nil ?_
        refine K.thn_normal ?_
        refine K.KW.ifF rfl ?_
        refine K.KW.skip ?_
        refine K.blk_normal ?_
        refine K.thn_normal ?_
        -- region 6 law.go:94
        refine K.KW.region ?_
        refine K.RW.q rfl rfl (K.QR.k (v := .int .i64 ((i : Nat) : Int)) (by kernel_rfl)) ?_
        refine K.RW.q rfl rfl (K.QR.n64 ((((i : Nat) : Int) : Int) + (1 : Int)) ((i + 1 : Nat) : Int) (by kernel_rfl) (by omega)) ?_
        refine K.RW.q rfl rfl (K.QR.k (v := .int .i64 ((i + 1 : Nat) : Int)) (by kernel_rfl)) ?_
        refine K.RW.nil ?_
        refine K.thn_normal ?_
        refine ⟨_, ?_, i + 1, rfl, ⟨by rfl, by rfl, by rfl, by rfl, by rfl, trivial⟩, (by omega), c_15, f_17⟩
        omega
      ·  -- no
        refine K.RW.q rfl rfl (K.QR.nice (v := .bool (decide ((((i : Nat) : Int) : Int) < ((((zc 300) : Nat) : Int) : Int)))) (by kernel_rfl) (congrArg Value.bool (decide_eq_false h_19))) ?_
        refine K.RW.nil ?_
        refine K.thn_normal ?_
        refine K.KW.ifF rfl ?_
        refine K.KW.exit ?_
        refine K.thn_exit ?_
        refine K.thn_exit ?_
        refine K.blk_hit ?_
        refine K.thn_normal ?_
        refine K.KW.seq ?_
        -- region 9 law.go:99
        refine K.KW.region ?_
        refine K.RW.q rfl rfl (K.QR.k (v := .int .u8 ((u : Nat) : Int)) (by kernel_rfl)) ?_
        refine K.RW.q rfl rfl (K.QR.nice (v := .int .i64 (IntKind.i64.wrap ((u : Nat) : Int))) (by kernel_rfl) (congrArg (Value.int .i64) (IntWalk.i64_in _ (by omega)))) ?_
        refine K.RW.q rfl rfl (K.QR.n64 ((262145 : Int) + (((u : Nat) : Int) : Int)) ((262145 + u : Nat) : Int) (by kernel_rfl) (by omega)) ?_
        refine K.RW.q rfl rfl (K.QR.n64 ((8 : Int) * (((262145 + u : Nat) : Int) : Int)) ((8 * (262145 + u) : Nat) : Int) (by kernel_rfl) (by omega)) ?_
        refine K.RW.l rfl (K.OW.mk (P := Try.prog) (m := (8 * (262145 + u))) (cc := cU64) (z := .int .u64 0) (size := 1) (bytes := 8) (base := w0.heap.size) (0 : Int) rfl rfl rfl rfl Try.underlying32 (by kernel_rfl) rfl rfl (by unfold maxLen; omega) (by omega) (by omega) ?_) 
        intro w_24 r_25 hr_26 e_27 hs_28 o_29
        have c_30 := c_15.no e_27
        have z_31 := c_30.size
        have zz_32 := e_27.size
        have f_33 := f_17.no e_27
        have ln_34 : ((List.replicate (8 * (262145 + u)) (0 : Int))).length = 8 * (262145 + u) := List.length_replicate
        refine K.RW.l rfl (K.OW.call rfl [.slice (some ⟨r_25, 0, none⟩) (8 * (262145 + u)) (8 * (262145 + u))] rfl rfl (by kernel_rfl) (cutLong_ok _ _ _ (List.replicate (8 * (262145 + u)) (0 : Int)) _ ln_34 (by omega) (by omega) (by omega) (by omega) (K.Own.rowE 0 o_29 ln_34 (fun _ => rfl))) ?_) 
        rintro _ w_39 ⟨r_35, m_36, cc_37, rfl, c_38⟩
        have c_40 := c_30.no c_38
        have z_41 := c_40.size
        have zz_42 := c_38.size
        have f_43 := f_33.no c_38
        have f_44 := o_29.no c_38
        refine K.RW.q rfl rfl (K.QR.k (v := .tuple #[.slice r_35 m_36 cc_37, .int .i64 2]) (by kernel_rfl)) ?_
        refine K.RW.q rfl rfl (K.QR.k (v := .slice r_35 m_36 cc_37) (by kernel_rfl)) ?_
        refine K.RW.q rfl rfl (K.QR.k (v := .int .i64 2) (by kernel_rfl)) ?_
        refine K.RW.q rfl rfl (K.QR.k (v := .slice r_35 m_36 cc_37) (by kernel_rfl)) ?_
        refine K.RW.q rfl rfl (K.QR.k (v := .int .i64 2) (by kernel_rfl)) ?_
        refine K.RW.nil ?_
        refine K.thn_normal ?_
        refine K.KW.seq ?_
        -- region 10 law.go:100
        refine K.KW.region ?_
        refine K.RW.l rfl (K.OW.call rfl [] rfl rfl (by kernel_rfl) (awake03_ok _) ?_) 
        rintro _ w_46 ⟨rfl, c_45⟩
        have c_47 := c_40.no c_45
        have z_48 := c_47.size
        have zz_49 := c_45.size
        have f_50 := f_43.no c_45
        have f_51 := f_44.no c_45
        refine K.RW.q rfl rfl (K.QR.k (v := .bool true) (by kernel_rfl)) ?_
        refine K.RW.q rfl (by kernel_rfl) (K.QR.k (v := .slice r_2 (zc 300) (zc 300)) (by kernel_rfl)) ?_
        refine K.RW.q rfl (by kernel_rfl) (K.QR.len (P := Try.prog) rfl rfl Try.underlying36) ?_
        refine K.RW.q rfl (by kernel_rfl) (K.QR.k (v := .int .i64 300) (by kernel_rfl)) ?_
        refine K.RW.q rfl (by kernel_rfl) (K.QR.k (v := .int .i64 300) (by kernel_rfl)) ?_
        refine K.RW.q rfl (by kernel_rfl) (K.QR.nice (v := .bool (((((zc 300) : Nat) : Int) : Int) == (300 : Int))) (by kernel_rfl) (congrArg Value.bool (beq_iff_eq.2 (by omega)))) ?_
        refine K.RW.q rfl rfl (K.QR.k (v := .bool true) (by kernel_rfl)) ?_
        refine K.RW.q rfl rfl (K.QR.k (v := .bool true) (by kernel_rfl)) ?_
        refine K.RW.q rfl (by kernel_rfl) (K.QR.k (v := .int .i64 2) (by kernel_rfl)) ?_
        refine K.RW.q rfl (by kernel_rfl) (K.QR.k (v := .bool true) (by kernel_rfl)) ?_
        refine K.RW.q rfl rfl (K.QR.k (v := .bool true) (by kernel_rfl)) ?_
        refine K.RW.q rfl rfl (K.QR.k (v := .bool true) (by kernel_rfl)) ?_
        refine K.RW.q rfl (by kernel_rfl) (K.QR.k (v := .int .u8 ((u : Nat) : Int)) (by kernel_rfl)) ?_
        refine K.RW.q rfl (by kernel_rfl) (K.QR.nice (v := .int .i64 (IntKind.i64.wrap ((u : Nat) : Int))) (by kernel_rfl) (congrArg (Value.int .i64) (IntWalk.i64_in _ (by omega)))) ?_
        refine K.RW.q rfl (by kernel_rfl) (K.QR.n64 ((262144 : Int) + (((u : Nat) : Int) : Int)) ((262144 + u : Nat) : Int) (by kernel_rfl) (by omega)) ?_
        refine K.RW.l (by kernel_rfl) (K.OW.call rfl [.int .i64 ((262144 + u : Nat) : Int)] rfl rfl (by kernel_rfl) (zero_ok ((262144 + u : Nat) : Int) _ (by omega)) ?_) 
        rintro _ w_55 ⟨r_52, rfl, c_53, o_54⟩
        have c_56 := c_47.no c_53
        have z_57 := c_56.size
        have zz_58 := c_53.size
        have f_59 := f_50.no c_53
        have f_60 := f_51.no c_53
        have o_61 := K.Own.mono (base' := w0.heap.size) o_54 (by omega)
        refine K.RW.q rfl (by kernel_rfl) (K.QR.len (P := Try.prog) rfl rfl Try.underlying36) ?_
        refine K.RW.q rfl (by kernel_rfl) (K.QR.nice (v := .bool (((((zc ((262144 + u : Nat) : Int)) : Nat) : Int) : Int) == (262144 : Int))) (by kernel_rfl) (congrArg Value.bool (beq_iff_eq.2 (by omega)))) ?_
        refine K.RW.q rfl rfl (K.QR.k (v := .bool true) (by kernel_rfl)) ?_
        refine K.RW.q rfl rfl (K.QR.k (v := .bool true) (by kernel_rfl)) ?_
        refine K.RW.nil ?_
        refine K.thn_normal ?_
        refine K.KW.ret ?_
        refine ⟨.inr rfl, rfl, (.bool true), K.res1 rfl rfl, ?_⟩
        exact ⟨rfl, c_56⟩
  ·  -- no
    refine K.RW.q rfl rfl (K.QR.nice (v := .bool (decide ((n : Int) > (300 : Int)))) (by kernel_rfl) (congrArg Value.bool (decide_eq_false h_1))) ?_
    refine K.RW.nil ?_
    refine K.thn_normal ?_
    refine K.KW.ifF rfl ?_
    refine K.KW.skip ?_
    refine K.thn_normal ?_
    refine K.KW.seq ?_
    -- region 3 law.go:93
    refine K.KW.region ?_
    refine K.RW.q rfl rfl (K.QR.k (v := .int .i64 n) (by kernel_rfl)) ?_
    refine K.RW.l rfl (K.OW.call rfl [.int .i64 n] rfl rfl (by kernel_rfl) (zero_ok n _ (by omega)) ?_) 
    rintro _ w_65 ⟨r_62, rfl, c_63, o_64⟩
    have c_66 := c_63
    have z_67 := c_66.size
    have zz_68 := c_63.size
    have o_69 := K.Own.mono (base' := w0.heap.size) o_64 (by omega)
    refine K.RW.q rfl rfl (K.QR.k (v := .slice r_62 (zc n) (zc n)) (by kernel_rfl)) ?_
    refine K.RW.nil ?_
    refine K.thn_normal ?_
    refine K.KW.seq ?_
    refine K.KW.seq ?_
    -- region 4 law.go:94
    refine K.KW.region ?_
    refine K.RW.q rfl rfl (K.QR.k (v := .int .i64 0) (by kernel_rfl)) ?_
    refine K.RW.nil ?_
    refine K.thn_normal ?_
    refine K.KW.block ?_
    refine K.KW.loop (fun m_ F_ w_70 => ∃ (i : Nat), m_ = (zc n) - i ∧ K.Sl F_ [(0, .int .i64 n), (1, .int .u8 ((u : Nat) : Int)), (5, .slice r_62 (zc n) (zc n)), (6, .int .i64 ((i : Nat) : Int)), (54, undef)] ∧ i ≤ (zc n) ∧ K.Chg K.No w0 w_70 ∧ K.Own w_70 w0.heap.size 24 8 r_62 (zc n) (zc n) (((zeroL (zc n))).flatMap cLine)) ((fun (i : Nat) => (zc n) - i) 0) ?_ ?_
    · -- the loop begins
      exact ⟨0, rfl, ⟨by rfl, by rfl, by rfl, by rfl, by rfl, trivial⟩, (by omega), c_66, o_69⟩
    · -- a round
      intro m_72 F_73 w_70 hI
      obtain ⟨i, rfl, sl_74, p_76, c_75, f_77⟩ := hI
      rw [← K.Sl.puts sl_74]; clear sl_74
      have z_78 := c_75.size
      refine K.KW.seq ?_
      refine K.KW.seq ?_
      -- region 5 law.go:94
      refine K.KW.region ?_
      refine K.RW.q rfl rfl (K.QR.k (v := .int .i64 ((i : Nat) : Int)) (by kernel_rfl)) ?_
      refine K.RW.q rfl rfl (K.QR.k (v := .slice r_62 (zc n) (zc n)) (by kernel_rfl)) ?_
      refine K.RW.q rfl rfl (K.QR.len (P := Try.prog) rfl rfl Try.underlying36) ?_
      by_cases h_79 : (((i : Nat) : Int) : Int) < ((((zc n) : Nat) : Int) : Int)
      ·  -- yes
        refine K.RW.q rfl rfl (K.QR.nice (v := .bool (decide ((((i : Nat) : Int) : Int) < ((((zc n) : Nat) : Int) : Int)))) (by kernel_rfl) (congrArg Value.bool (decide_eq_true h_79))) ?_
        refine K.RW.nil ?_
        refine K.thn_normal ?_
        refine K.KW.ifT rfl ?_
        refine K.KW.skip ?_
        refine K.thn_normal ?_
        refine K.KW.seq ?_
        refine K.KW.block ?_
        refine K.KW.seq ?_
        -- region 7 law.go:95
        obtain ⟨b_80, rfl, gb_82, gl_83⟩ := f_77.some_ (by omega)
        refine K.KW.region ?_
        refine K.RW.q rfl rfl (K.QR.k (v := .slice (some ⟨b_80, 0, none⟩) (zc n) (zc n)) (by kernel_rfl)) ?_
        refine K.RW.q rfl rfl (K.QR.k (v := .int .i64 ((i : Nat) : Int)) (by kernel_rfl)) ?_
        refine K.RW.q rfl rfl (K.QR.ix (0 + i * 8) 8 rfl rfl rfl Try.underlying36 (by kernel_rfl) (by omega) (by first | (simp; done) | omega | (simp; omega))) ?_
        refine K.RW.q rfl rfl (K.QR.ldN [.int .u64 (((zeroL (zc n)).getD i ([] : List Int)).getD 0 0), .int .u64 (((zeroL (zc n)).getD i ([] : List Int)).getD 1 0), .int .u64 (((zeroL (zc n)).getD i ([] : List Int)).getD 2 0), .int .u64 (((zeroL (zc n)).getD i ([] : List Int)).getD 3 0), .int .u64 (((zeroL (zc n)).getD i ([] : List Int)).getD 4 0), .int .u64 (((zeroL (zc n)).getD i ([] : List Int)).getD 5 0), .int .u64 (((zeroL (zc n)).getD i ([] : List Int)).getD 6 0), .int .u64 (((zeroL (zc n)).getD i ([] : List Int)).getD 7 0)] rfl rfl (by kernel_rfl) (by kernel_rfl) (K.cells (K.cl ((K.Own.rowE ([] : List Int) f_77 (zeroL_len _) (fun _ => rfl)).ld i (by omega) 0 _ rfl) (K.cl ((K.Own.rowE ([] : List Int) f_77 (zeroL_len _) (fun _ => rfl)).ld i (by omega) 1 _ rfl) (K.cl ((K.Own.rowE ([] : List Int) f_77 (zeroL_len _) (fun _ => rfl)).ld i (by omega) 2 _ rfl) (K.cl ((K.Own.rowE ([] : List Int) f_77 (zeroL_len _) (fun _ => rfl)).ld i (by omega) 3 _ rfl) (K.cl ((K.Own.rowE ([] : List Int) f_77 (zeroL_len _) (fun _ => rfl)).ld i (by omega) 4 _ rfl) (K.cl ((K.Own.rowE ([] : List Int) f_77 (zeroL_len _) (fun _ => rfl)).ld i (by omega) 5 _ rfl) (K.cl ((K.Own.rowE ([] : List Int) f_77 (zeroL_len _) (fun _ => rfl)).ld i (by omega) 6 _ rfl) (K.cl ((K.Own.rowE ([] : List Int) f_77 (zeroL_len _) (fun _ => rfl)).ld i (by omega) 7 _ rfl) K.cl0)))))))))) ?_
        refine K.RW.q rfl rfl (K.QR.bd [] [.int .u64 0, .int .u64 0, .int .u64 0, .int .u64 0, .int .u64 0, .int .u64 0, .int .u64 0, .int .u64 0] rfl rfl (by kernel_rfl)) ?_
        refine K.RW.q rfl rfl (K.QR.neS (by kernel_rfl) rfl rfl rfl (eqLine_t (⟨zero_line _ _ 0, zero_line _ _ 1, zero_line _ _ 2, zero_line _ _ 3, zero_line _ _ 4, zero_line _ _ 5, zero_line _ _ 6, zero_line _ _ 7⟩))) ?_
        refine K.RW.nil ?_
        refine K.thn_normal ?_
        refine K.KW.ifF rfl ?_
        refine K.KW.skip ?_
        refine K.blk_normal ?_
        refine K.thn_normal ?_
        -- region 6 law.go:94
        refine K.KW.region ?_
        refine K.RW.q rfl rfl (K.QR.k (v := .int .i64 ((i : Nat) : Int)) (by kernel_rfl)) ?_
        refine K.RW.q rfl rfl (K.QR.n64 ((((i : Nat) : Int) : Int) + (1 : Int)) ((i + 1 : Nat) : Int) (by kernel_rfl) (by omega)) ?_
        refine K.RW.q rfl rfl (K.QR.k (v := .int .i64 ((i + 1 : Nat) : Int)) (by kernel_rfl)) ?_
        refine K.RW.nil ?_
        refine K.thn_normal ?_
        refine ⟨_, ?_, i + 1, rfl, ⟨by rfl, by rfl, by rfl, by rfl, by rfl, trivial⟩, (by omega), c_75, f_77⟩
        omega
      ·  -- no
        refine K.RW.q rfl rfl (K.QR.nice (v := .bool (decide ((((i : Nat) : Int) : Int) < ((((zc n) : Nat) : Int) : Int)))) (by kernel_rfl) (congrArg Value.bool (decide_eq_false h_79))) ?_
        refine K.RW.nil ?_
        refine K.thn_normal ?_
        refine K.KW.ifF rfl ?_
        refine K.KW.exit ?_
        refine K.thn_exit ?_
        refine K.thn_exit ?_
        refine K.blk_hit ?_
        refine K.thn_normal ?_
        refine K.KW.seq ?_
        -- region 9 law.go:99
        refine K.KW.region ?_
        refine K.RW.q rfl rfl (K.QR.k (v := .int .u8 ((u : Nat) : Int)) (by kernel_rfl)) ?_
        refine K.RW.q rfl rfl (K.QR.nice (v := .int .i64 (IntKind.i64.wrap ((u : Nat) : Int))) (by kernel_rfl) (congrArg (Value.int .i64) (IntWalk.i64_in _ (by omega)))) ?_
        refine K.RW.q rfl rfl (K.QR.n64 ((262145 : Int) + (((u : Nat) : Int) : Int)) ((262145 + u : Nat) : Int) (by kernel_rfl) (by omega)) ?_
        refine K.RW.q rfl rfl (K.QR.n64 ((8 : Int) * (((262145 + u : Nat) : Int) : Int)) ((8 * (262145 + u) : Nat) : Int) (by kernel_rfl) (by omega)) ?_
        refine K.RW.l rfl (K.OW.mk (P := Try.prog) (m := (8 * (262145 + u))) (cc := cU64) (z := .int .u64 0) (size := 1) (bytes := 8) (base := w0.heap.size) (0 : Int) rfl rfl rfl rfl Try.underlying32 (by kernel_rfl) rfl rfl (by unfold maxLen; omega) (by omega) (by omega) ?_) 
        intro w_84 r_85 hr_86 e_87 hs_88 o_89
        have c_90 := c_75.no e_87
        have z_91 := c_90.size
        have zz_92 := e_87.size
        have f_93 := f_77.no e_87
        have ln_94 : ((List.replicate (8 * (262145 + u)) (0 : Int))).length = 8 * (262145 + u) := List.length_replicate
        refine K.RW.l rfl (K.OW.call rfl [.slice (some ⟨r_85, 0, none⟩) (8 * (262145 + u)) (8 * (262145 + u))] rfl rfl (by kernel_rfl) (cutLong_ok _ _ _ (List.replicate (8 * (262145 + u)) (0 : Int)) _ ln_94 (by omega) (by omega) (by omega) (by omega) (K.Own.rowE 0 o_89 ln_94 (fun _ => rfl))) ?_) 
        rintro _ w_99 ⟨r_95, m_96, cc_97, rfl, c_98⟩
        have c_100 := c_90.no c_98
        have z_101 := c_100.size
        have zz_102 := c_98.size
        have f_103 := f_93.no c_98
        have f_104 := o_89.no c_98
        refine K.RW.q rfl rfl (K.QR.k (v := .tuple #[.slice r_95 m_96 cc_97, .int .i64 2]) (by kernel_rfl)) ?_
        refine K.RW.q rfl rfl (K.QR.k (v := .slice r_95 m_96 cc_97) (by kernel_rfl)) ?_
        refine K.RW.q rfl rfl (K.QR.k (v := .int .i64 2) (by kernel_rfl)) ?_
        refine K.RW.q rfl rfl (K.QR.k (v := .slice r_95 m_96 cc_97) (by kernel_rfl)) ?_
        refine K.RW.q rfl rfl (K.QR.k (v := .int .i64 2) (by kernel_rfl)) ?_
        refine K.RW.nil ?_
        refine K.thn_normal ?_
        refine K.KW.seq ?_
        -- region 10 law.go:100
        refine K.KW.region ?_
        refine K.RW.l rfl (K.OW.call rfl [] rfl rfl (by kernel_rfl) (awake03_ok _) ?_) 
        rintro _ w_106 ⟨rfl, c_105⟩
        have c_107 := c_100.no c_105
        have z_108 := c_107.size
        have zz_109 := c_105.size
        have f_110 := f_103.no c_105
        have f_111 := f_104.no c_105
        refine K.RW.q rfl rfl (K.QR.k (v := .bool true) (by kernel_rfl)) ?_
        refine K.RW.q rfl (by kernel_rfl) (K.QR.k (v := .slice r_62 (zc n) (zc n)) (by kernel_rfl)) ?_
        refine K.RW.q rfl (by kernel_rfl) (K.QR.len (P := Try.prog) rfl rfl Try.underlying36) ?_
        refine K.RW.q rfl (by kernel_rfl) (K.QR.k (v := .int .i64 n) (by kernel_rfl)) ?_
        by_cases h_112 : (n : Int) < (0 : Int)
        ·  -- yes
          refine K.RW.q rfl (by kernel_rfl) (K.QR.max2 0 rfl rfl rfl (by omega)) ?_
          refine K.RW.q rfl (by kernel_rfl) (K.QR.nice (v := .bool (((((zc n) : Nat) : Int) : Int) == (0 : Int))) (by kernel_rfl) (congrArg Value.bool (beq_iff_eq.2 (by omega)))) ?_
          refine K.RW.q rfl rfl (K.QR.k (v := .bool true) (by kernel_rfl)) ?_
          refine K.RW.q rfl rfl (K.QR.k (v := .bool true) (by kernel_rfl)) ?_
          refine K.RW.q rfl (by kernel_rfl) (K.QR.k (v := .int .i64 2) (by kernel_rfl)) ?_
          refine K.RW.q rfl (by kernel_rfl) (K.QR.k (v := .bool true) (by kernel_rfl)) ?_
          refine K.RW.q rfl rfl (K.QR.k (v := .bool true) (by kernel_rfl)) ?_
          refine K.RW.q rfl rfl (K.QR.k (v := .bool true) (by kernel_rfl)) ?_
          refine K.RW.q rfl (by kernel_rfl) (K.QR.k (v := .int .u8 ((u : Nat) : Int)) (by kernel_rfl)) ?_
          refine K.RW.q rfl (by kernel_rfl) (K.QR.nice (v := .int .i64 (IntKind.i64.wrap ((u : Nat) : Int))) (by kernel_rfl) (congrArg (Value.int .i64) (IntWalk.i64_in _ (by omega)))) ?_
          refine K.RW.q rfl (by kernel_rfl) (K.QR.n64 ((262144 : Int) + (((u : Nat) : Int) : Int)) ((262144 + u : Nat) : Int) (by kernel_rfl) (by omega)) ?_
          refine K.RW.l (by kernel_rfl) (K.OW.call rfl [.int .i64 ((262144 + u : Nat) : Int)] rfl rfl (by kernel_rfl) (zero_ok ((262144 + u : Nat) : Int) _ (by omega)) ?_) 
          rintro _ w_116 ⟨r_113, rfl, c_114, o_115⟩
          have c_117 := c_107.no c_114
          have z_118 := c_117.size
          have zz_119 := c_114.size
          have f_120 := f_110.no c_114
          have f_121 := f_111.no c_114
          have o_122 := K.Own.mono (base' := w0.heap.size) o_115 (by omega)
          refine K.RW.q rfl (by kernel_rfl) (K.QR.len (P := Try.prog) rfl rfl Try.underlying36) ?_
          refine K.RW.q rfl (by kernel_rfl) (K.QR.nice (v := .bool (((((zc ((262144 + u : Nat) : Int)) : Nat) : Int) : Int) == (262144 : Int))) (by kernel_rfl) (congrArg Value.bool (beq_iff_eq.2 (by omega)))) ?_
          refine K.RW.q rfl rfl (K.QR.k (v := .bool true) (by kernel_rfl)) ?_
          refine K.RW.q rfl rfl (K.QR.k (v := .bool true) (by kernel_rfl)) ?_
          refine K.RW.nil ?_
          refine K.thn_normal ?_
          refine K.KW.ret ?_
          refine ⟨.inr rfl, rfl, (.bool true), K.res1 rfl rfl, ?_⟩
          exact ⟨rfl, c_117⟩
        ·  -- no
          refine K.RW.q rfl (by kernel_rfl) (K.QR.max2 n rfl rfl rfl (by omega)) ?_
          refine K.RW.q rfl (by kernel_rfl) (K.QR.nice (v := .bool (((((zc n) : Nat) : Int) : Int) == (n : Int))) (by kernel_rfl) (congrArg Value.bool (beq_iff_eq.2 (by omega)))) ?_
          refine K.RW.q rfl rfl (K.QR.k (v := .bool true) (by kernel_rfl)) ?_
          refine K.RW.q rfl rfl (K.QR.k (v := .bool true) (by kernel_rfl)) ?_
          refine K.RW.q rfl (by kernel_rfl) (K.QR.k (v := .int .i64 2) (by kernel_rfl)) ?_
          refine K.RW.q rfl (by kernel_rfl) (K.QR.k (v := .bool true) (by kernel_rfl)) ?_
          refine K.RW.q rfl rfl (K.QR.k (v := .bool true) (by kernel_rfl)) ?_
          refine K.RW.q rfl rfl (K.QR.k (v := .bool true) (by kernel_rfl)) ?_
          refine K.RW.q rfl (by kernel_rfl) (K.QR.k (v := .int .u8 ((u : Nat) : Int)) (by kernel_rfl)) ?_
          refine K.RW.q rfl (by kernel_rfl) (K.QR.nice (v := .int .i64 (IntKind.i64.wrap ((u : Nat) : Int))) (by kernel_rfl) (congrArg (Value.int .i64) (IntWalk.i64_in _ (by omega)))) ?_
          refine K.RW.q rfl (by kernel_rfl) (K.QR.n64 ((262144 : Int) + (((u : Nat) : Int) : Int)) ((262144 + u : Nat) : Int) (by kernel_rfl) (by omega)) ?_
          refine K.RW.l (by kernel_rfl) (K.OW.call rfl [.int .i64 ((262144 + u : Nat) : Int)] rfl rfl (by kernel_rfl) (zero_ok ((262144 + u : Nat) : Int) _ (by omega)) ?_) 
          rintro _ w_126 ⟨r_123, rfl, c_124, o_125⟩
          have c_127 := c_107.no c_124
          have z_128 := c_127.size
          have zz_129 := c_124.size
          have f_130 := f_110.no c_124
          have f_131 := f_111.no c_124
          have o_132 := K.Own.mono (base' := w0.heap.size) o_125 (by omega)
          refine K.RW.q rfl (by kernel_rfl) (K.QR.len (P := Try.prog) rfl rfl Try.underlying36) ?_
          refine K.RW.q rfl (by kernel_rfl) (K.QR.nice (v := .bool (((((zc ((262144 + u : Nat) : Int)) : Nat) : Int) : Int) == (262144 : Int))) (by kernel_rfl) (congrArg Value.bool (beq_iff_eq.2 (by omega)))) ?_
          refine K.RW.q rfl rfl (K.QR.k (v := .bool true) (by kernel_rfl)) ?_
          refine K.RW.q rfl rfl (K.QR.k (v := .bool true) (by kernel_rfl)) ?_
          refine K.RW.nil ?_
          refine K.thn_normal ?_
          refine K.KW.ret ?_
          refine ⟨.inr rfl, rfl, (.bool true), K.res1 rfl rfl, ?_⟩
          exact ⟨rfl, c_127⟩

end Go.Proofs.Ytcmlompigmhddaa
