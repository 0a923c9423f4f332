/- The statements on package lines. -/
import Derived.ChangeKeysEq
import Derived.Test.YtcmlompigmhddaaFlin3
namespace Go.Proofs.Ytcmlompigmhddaa
open Go.RowKit
set_option linter.unusedVariables false
attribute [local irreducible] K.KW K.RW K.DW K.OW K.QR K.KC

set_option maxHeartbeats 2000000 in
theorem eqLine_t {a0 a1 a2 a3 a4 a5 a6 a7 b0 b1 b2 b3 b4 b5 b6 b7 : Int} (h : a0 = b0 ∧ a1 = b1 ∧ a2 = b2 ∧ a3 = b3 ∧ a4 = b4 ∧ a5 = b5 ∧ a6 = b6 ∧ a7 = b7) (w : World) : (Op.equal 24 (.agg #[.int .u64 a0, .int .u64 a1, .int .u64 a2, .int .u64 a3, .int .u64 a4, .int .u64 a5, .int .u64 a6, .int .u64 a7]) (.agg #[.int .u64 b0, .int .u64 b1, .int .u64 b2, .int .u64 b3, .int .u64 b4, .int .u64 b5, .int .u64 b6, .int .u64 b7])).run Try.prog w = .ok true w := by
  obtain ⟨rfl, rfl, rfl, rfl, rfl, rfl, rfl, rfl⟩ := h
  obtain ⟨i, hi⟩ := info_of_underlying Try.underlying22
  unfold Op.equal Op.maxDepth
  rw [run_equalIn_array w 9999 _ _ Try.underlying24 hi, show Try.prog.cellsOf 22 = 1 by kernel_rfl, show List.range 8 = [0, 1, 2, 3, 4, 5, 6, 7] by decide]
  simp [go_sem, Op.eqItems]

set_option maxHeartbeats 1000000 in
set_option maxRecDepth 100000 in
theorem awake03_ok (w0 : World) :
    K.KC Try.prog 14 #[] w0 (fun v w' => v = .bool true ∧ K.Chg K.No w0 w') := by
  refine K.KC.mk (n := 31) Try.func14 rfl rfl [] rfl rfl ?_
  refine K.KW.seq ?_
  -- region 0 law.go:11
  refine K.KW.region ?_
  refine K.RW.q rfl rfl (K.QR.k (v := .bool false) (by kernel_rfl)) ?_
  refine K.RW.nil ?_
  refine K.thn_normal ?_
  refine K.KW.seq ?_
  -- region 1 law.go:12
  refine K.KW.region ?_
  refine K.RW.q rfl rfl (K.QR.bd [(0, .int .u64 1), (1, .int .u64 256)] [.int .u64 1, .int .u64 256, .int .u64 0, .int .u64 0, .int .u64 0, .int .u64 0, .int .u64 0, .int .u64 0] rfl rfl (by kernel_rfl)) ?_
  refine K.RW.l rfl (K.OW.call rfl [.agg #[.int .u64 1, .int .u64 256, .int .u64 0, .int .u64 0, .int .u64 0, .int .u64 0, .int .u64 0, .int .u64 0]] rfl rfl (by kernel_rfl) (lBytes_ok [1, 256, 0, 0, 0, 0, 0, 0] _ (by first | assumption | exact ln8_words (by assumption) | exact flat_words (by assumption) | exact words_words (by assumption) _ | exact ln8_words (words_words (by assumption) _) | (apply allWords_lit; decide))) ?_) 
  rintro v_9 w_7 ⟨r_1, m_2, cc_3, hv_8, c_4, o_5, l_6⟩
  obtain rfl : 64 = m_2 := l_6
  subst hv_8
  have c_10 := c_4
  have z_11 := c_10.size
  have zz_12 := c_4.size
  have o_13 := K.Own.mono (base' := w0.heap.size) o_5 (by omega)
  refine K.RW.q rfl rfl (K.QR.k (v := .slice r_1 64 cc_3) (by kernel_rfl)) ?_
  refine K.RW.nil ?_
  refine K.thn_normal ?_
  refine K.KW.seq ?_
  -- region 2 law.go:13
  refine K.KW.region ?_
  refine K.RW.q rfl rfl (K.QR.k (v := .slice r_1 64 cc_3) (by kernel_rfl)) ?_
  refine K.RW.q rfl rfl (K.QR.len (P := Try.prog) rfl rfl Try.underlying25) ?_
  refine K.RW.q rfl rfl (K.QR.k (v := .bool true) (by kernel_rfl)) ?_
  refine K.RW.q rfl rfl (K.QR.k (v := .bool true) (by kernel_rfl)) ?_
  refine K.RW.q rfl (by kernel_rfl) (K.QR.k (v := .slice r_1 64 cc_3) (by kernel_rfl)) ?_
  obtain ⟨b_14, rfl, gb_16, gl_17⟩ := o_13.some_ (by omega)
  refine K.RW.q rfl (by kernel_rfl) (K.QR.ix (0 + 0 * 1) 1 rfl rfl rfl Try.underlying25 (by kernel_rfl) (by omega) (by first | (simp; done) | omega | (simp; omega))) ?_
  refine K.RW.q rfl (by kernel_rfl) (K.QR.ld1 (v := .int .u8 ((bytesL (ln8 [1, 256, 0, 0, 0, 0, 0, 0])).getD 0 0)) rfl rfl (by kernel_rfl) ((K.Own.rowE 0 o_13 rfl (fun _ => rfl)).ld 0 (by omega) 0 _ rfl)) ?_
  refine K.RW.q rfl (by kernel_rfl) (K.QR.nice (v := .bool (((bytesL (ln8 [1, 256, 0, 0, 0, 0, 0, 0])).getD 0 0 : Int) == (1 : Int))) (by kernel_rfl) (congrArg Value.bool (beq_iff_eq.2 (by decide)))) ?_
  refine K.RW.q rfl rfl (K.QR.k (v := .bool true) (by kernel_rfl)) ?_
  refine K.RW.q rfl rfl (K.QR.k (v := .bool true) (by kernel_rfl)) ?_
  refine K.RW.q rfl (by kernel_rfl) (K.QR.k (v := .slice (some ⟨b_14, 0, none⟩) 64 cc_3) (by kernel_rfl)) ?_
  refine K.RW.q rfl (by kernel_rfl) (K.QR.ix (0 + 8 * 1) 1 rfl rfl rfl Try.underlying25 (by kernel_rfl) (by omega) (by first | (simp; done) | omega | (simp; omega))) ?_
  refine K.RW.q rfl (by kernel_rfl) (K.QR.ld1 (v := .int .u8 ((bytesL (ln8 [1, 256, 0, 0, 0, 0, 0, 0])).getD 8 0)) rfl rfl (by kernel_rfl) ((K.Own.rowE 0 o_13 rfl (fun _ => rfl)).ld 8 (by omega) 0 _ rfl)) ?_
  refine K.RW.q rfl (by kernel_rfl) (K.QR.nice (v := .bool (((bytesL (ln8 [1, 256, 0, 0, 0, 0, 0, 0])).getD 8 0 : Int) == (0 : Int))) (by kernel_rfl) (congrArg Value.bool (beq_iff_eq.2 (by decide)))) ?_
  refine K.RW.q rfl rfl (K.QR.k (v := .bool true) (by kernel_rfl)) ?_
  refine K.RW.q rfl rfl (K.QR.k (v := .bool true) (by kernel_rfl)) ?_
  refine K.RW.q rfl (by kernel_rfl) (K.QR.k (v := .slice (some ⟨b_14, 0, none⟩) 64 cc_3) (by kernel_rfl)) ?_
  refine K.RW.q rfl (by kernel_rfl) (K.QR.ix (0 + 9 * 1) 1 rfl rfl rfl Try.underlying25 (by kernel_rfl) (by omega) (by first | (simp; done) | omega | (simp; omega))) ?_
  refine K.RW.q rfl (by kernel_rfl) (K.QR.ld1 (v := .int .u8 ((bytesL (ln8 [1, 256, 0, 0, 0, 0, 0, 0])).getD 9 0)) rfl rfl (by kernel_rfl) ((K.Own.rowE 0 o_13 rfl (fun _ => rfl)).ld 9 (by omega) 0 _ rfl)) ?_
  refine K.RW.q rfl (by kernel_rfl) (K.QR.nice (v := .bool (((bytesL (ln8 [1, 256, 0, 0, 0, 0, 0, 0])).getD 9 0 : Int) == (1 : Int))) (by kernel_rfl) (congrArg Value.bool (beq_iff_eq.2 (by decide)))) ?_
  refine K.RW.q rfl rfl (K.QR.k (v := .bool true) (by kernel_rfl)) ?_
  refine K.RW.q rfl rfl (K.QR.k (v := .bool true) (by kernel_rfl)) ?_
  refine K.RW.q rfl (by kernel_rfl) (K.QR.k (v := .slice (some ⟨b_14, 0, none⟩) 64 cc_3) (by kernel_rfl)) ?_
  refine K.RW.q rfl (by kernel_rfl) (K.QR.ix (0 + 63 * 1) 1 rfl rfl rfl Try.underlying25 (by kernel_rfl) (by omega) (by first | (simp; done) | omega | (simp; omega))) ?_
  refine K.RW.q rfl (by kernel_rfl) (K.QR.ld1 (v := .int .u8 ((bytesL (ln8 [1, 256, 0, 0, 0, 0, 0, 0])).getD 63 0)) rfl rfl (by kernel_rfl) ((K.Own.rowE 0 o_13 rfl (fun _ => rfl)).ld 63 (by omega) 0 _ rfl)) ?_
  refine K.RW.q rfl (by kernel_rfl) (K.QR.nice (v := .bool (((bytesL (ln8 [1, 256, 0, 0, 0, 0, 0, 0])).getD 63 0 : Int) == (0 : Int))) (by kernel_rfl) (congrArg Value.bool (beq_iff_eq.2 (by decide)))) ?_
  refine K.RW.q rfl rfl (K.QR.k (v := .bool true) (by kernel_rfl)) ?_
  refine K.RW.q rfl rfl (K.QR.k (v := .bool true) (by kernel_rfl)) ?_
  refine K.RW.nil ?_
  refine K.thn_normal ?_
  refine K.KW.ret ?_
  refine ⟨.inr rfl, rfl, (.bool true), K.res1 rfl rfl, ?_⟩
  exact ⟨rfl, c_10⟩

theorem line_back {l : List Int} (h : allWords l) : wordsT (bytesL (ln8 l)) 8 = ln8 l :=
  words_back (ws := ln8 l) (by have := flat_words (ls := [l]) (by intro x hx; simp at hx; subst hx; exact h); simpa [flatL] using this)
theorem line_eq {l : List Int} (h : allWords l) : (wordsT (bytesL (ln8 l)) 8).getD 0 0 = l.getD 0 0 ∧ (wordsT (bytesL (ln8 l)) 8).getD 1 0 = l.getD 1 0 ∧ (wordsT (bytesL (ln8 l)) 8).getD 2 0 = l.getD 2 0 ∧ (wordsT (bytesL (ln8 l)) 8).getD 3 0 = l.getD 3 0 ∧ (wordsT (bytesL (ln8 l)) 8).getD 4 0 = l.getD 4 0 ∧ (wordsT (bytesL (ln8 l)) 8).getD 5 0 = l.getD 5 0 ∧ (wordsT (bytesL (ln8 l)) 8).getD 6 0 = l.getD 6 0 ∧ (wordsT (bytesL (ln8 l)) 8).getD 7 0 = l.getD 7 0 := by
  rw [line_back h]; exact ⟨rfl, rfl, rfl, rfl, rfl, rfl, rfl, rfl⟩
theorem line_same {xs : List Int} (h : ((xs.length : Nat) : Int) = 64) : ln8 (wordsT xs 8) = wordsL xs := by
  rw [ln8_of (wordsT_len _ _)]; unfold wordsL; rw [show xs.length / 8 = 8 by omega]
theorem line_bytes {xs : List Int} (hb : allBytes xs) (h : ((xs.length : Nat) : Int) = 64) : bytesL (ln8 (wordsT xs 8)) = xs := by
  rw [ln8_of (wordsT_len _ _), bytes_back hb (k := 8) (by omega), List.take_of_length_le (by omega)]

set_option maxHeartbeats 1000000 in
set_option maxRecDepth 100000 in
theorem linB_ok (l : List Int) (a : Option Addr) (cap : Nat) (xs : List Int) (w0 : World) (hw : allWords l) (hm0 : xs.length ≤ 9223372036854775807) (hc : xs.length ≤ cap) (hb : allBytes xs) (hx : RU8 w0 a xs) :
    K.KC Try.prog 3 #[.agg #[.int .u64 (l.getD 0 0), .int .u64 (l.getD 1 0), .int .u64 (l.getD 2 0), .int .u64 (l.getD 3 0), .int .u64 (l.getD 4 0), .int .u64 (l.getD 5 0), .int .u64 (l.getD 6 0), .int .u64 (l.getD 7 0)], .slice a xs.length cap] w0 (fun v w' => v = .bool true ∧ K.Chg K.No w0 w') := by
  refine K.KC.mk (n := 73) Try.func3 rfl rfl [.agg #[.int .u64 (l.getD 0 0), .int .u64 (l.getD 1 0), .int .u64 (l.getD 2 0), .int .u64 (l.getD 3 0), .int .u64 (l.getD 4 0), .int .u64 (l.getD 5 0), .int .u64 (l.getD 6 0), .int .u64 (l.getD 7 0)], .slice a xs.length cap] rfl rfl ?_
  refine K.KW.seq ?_
  -- region 0 law.go:41
  refine K.KW.region ?_
  refine K.RW.l rfl (K.OW.new (t := 24) rfl (fun r => .pointer (some ⟨r, 0, none⟩)) [.int .u64 (l.getD 0 0), .int .u64 (l.getD 1 0), .int .u64 (l.getD 2 0), .int .u64 (l.getD 3 0), .int .u64 (l.getD 4 0), .int .u64 (l.getD 5 0), .int .u64 (l.getD 6 0), .int .u64 (l.getD 7 0)] (by kernel_rfl) ?_) 
  intro w_1 r_2 hr_3 e_4 hs_5 b_6
  have c_7 := e_4
  have z_8 := c_7.size
  have zz_9 := e_4.size
  refine K.RW.q rfl rfl (K.QR.k (v := .bool false) (by kernel_rfl)) ?_
  refine K.RW.nil ?_
  refine K.thn_normal ?_
  refine K.KW.seq ?_
  refine K.KW.seq ?_
  -- region 1 law.go:42
  refine K.KW.region ?_
  refine K.RW.q rfl rfl (K.QR.k (v := .slice a xs.length cap) (by kernel_rfl)) ?_
  refine K.RW.q rfl rfl (K.QR.len (P := Try.prog) rfl rfl Try.underlying25) ?_
  by_cases h_10 : (((xs.length : Nat) : Int) : Int) > (300 : Int)
  ·  -- yes
    refine K.RW.q rfl rfl (K.QR.nice (v := .bool (decide ((((xs.length : Nat) : Int) : Int) > (300 : Int)))) (by kernel_rfl) (congrArg Value.bool (decide_eq_true h_10))) ?_
    refine K.RW.nil ?_
    refine K.thn_normal ?_
    refine K.KW.ifT rfl ?_
    refine K.KW.seq ?_
    -- region 2 law.go:43
    refine K.KW.region ?_
    refine K.RW.l rfl (K.OW.call rfl [] rfl rfl (by kernel_rfl) (awake03_ok _) ?_) 
    rintro _ w_12 ⟨rfl, c_11⟩
    have c_13 := c_7.no c_11
    have z_14 := c_13.size
    have zz_15 := c_11.size
    have f_16 := b_6.no c_11
    refine K.RW.q rfl rfl (K.QR.k (v := .bool true) (by kernel_rfl)) ?_
    refine K.RW.nil ?_
    refine K.thn_normal ?_
    refine K.KW.ret ?_
    refine K.thn_ret ?_
    refine ⟨.inr rfl, rfl, (.bool true), K.res1 rfl rfl, ?_⟩
    exact ⟨rfl, c_13⟩
  ·  -- no
    refine K.RW.q rfl rfl (K.QR.nice (v := .bool (decide ((((xs.length : Nat) : Int) : Int) > (300 : Int)))) (by kernel_rfl) (congrArg Value.bool (decide_eq_false h_10))) ?_
    refine K.RW.nil ?_
    refine K.thn_normal ?_
    refine K.KW.ifF rfl ?_
    refine K.KW.skip ?_
    refine K.thn_normal ?_
    refine K.KW.seq ?_
    -- region 3 law.go:45
    refine K.KW.region ?_
    refine K.RW.q rfl rfl (K.QR.ldN [.int .u64 (l.getD 0 0), .int .u64 (l.getD 1 0), .int .u64 (l.getD 2 0), .int .u64 (l.getD 3 0), .int .u64 (l.getD 4 0), .int .u64 (l.getD 5 0), .int .u64 (l.getD 6 0), .int .u64 (l.getD 7 0)] rfl rfl (by kernel_rfl) (by kernel_rfl) (K.cells (K.cl (b_6.cell rfl) (K.cl (b_6.cell rfl) (K.cl (b_6.cell rfl) (K.cl (b_6.cell rfl) (K.cl (b_6.cell rfl) (K.cl (b_6.cell rfl) (K.cl (b_6.cell rfl) (K.cl (b_6.cell rfl) K.cl0)))))))))) ?_
    refine K.RW.l rfl (K.OW.call rfl [.agg #[.int .u64 (l.getD 0 0), .int .u64 (l.getD 1 0), .int .u64 (l.getD 2 0), .int .u64 (l.getD 3 0), .int .u64 (l.getD 4 0), .int .u64 (l.getD 5 0), .int .u64 (l.getD 6 0), .int .u64 (l.getD 7 0)]] rfl rfl (by kernel_rfl) (lBytes_ok l _ (by first | assumption | exact ln8_words (by assumption) | exact flat_words (by assumption) | exact words_words (by assumption) _ | exact ln8_words (words_words (by assumption) _) | (apply allWords_lit; decide))) ?_) 
    rintro v_25 w_23 ⟨r_17, m_18, cc_19, hv_24, c_20, o_21, l_22⟩
    obtain rfl : 64 = m_18 := l_22
    subst hv_24
    have c_26 := c_7.no c_20
    have z_27 := c_26.size
    have zz_28 := c_20.size
    have f_29 := b_6.no c_20
    have o_30 := K.Own.mono (base' := w0.heap.size) o_21 (by omega)
    refine K.RW.q rfl rfl (K.QR.k (v := .slice r_17 64 cc_19) (by kernel_rfl)) ?_
    refine K.RW.nil ?_
    refine K.thn_normal ?_
    refine K.KW.seq ?_
    -- region 4 law.go:46
    refine K.KW.region ?_
    refine K.RW.q rfl rfl (K.QR.k (v := .slice r_17 64 cc_19) (by kernel_rfl)) ?_
    refine K.RW.l rfl (K.OW.call rfl [.slice r_17 64 cc_19] rfl rfl (by kernel_rfl) (read64_ok _ _ _ (bytesL (ln8 l)) _ (by omega) rfl (by have h0 := own_le_cap o_30; omega) (by first | assumption | exact bytesL_bytes _ | exact allBytes_sub (by assumption) (mem_take) | exact allBytes_sub (by assumption) (fun x h => mem_drop x (mem_take x h))) (K.RowE.len (K.Own.rowE 0 o_30 rfl (fun _ => rfl)) rfl)) ?_) 
    rintro _ w_32 ⟨rfl, c_31⟩
    have c_33 := c_26.no c_31
    have z_34 := c_33.size
    have zz_35 := c_31.size
    have f_36 := f_29.no c_31
    have f_37 := o_30.no c_31
    refine K.RW.q rfl rfl (K.QR.k (v := .tuple #[.agg #[.int .u64 ((wordsT (bytesL (ln8 l)) 8).getD 0 0), .int .u64 ((wordsT (bytesL (ln8 l)) 8).getD 1 0), .int .u64 ((wordsT (bytesL (ln8 l)) 8).getD 2 0), .int .u64 ((wordsT (bytesL (ln8 l)) 8).getD 3 0), .int .u64 ((wordsT (bytesL (ln8 l)) 8).getD 4 0), .int .u64 ((wordsT (bytesL (ln8 l)) 8).getD 5 0), .int .u64 ((wordsT (bytesL (ln8 l)) 8).getD 6 0), .int .u64 ((wordsT (bytesL (ln8 l)) 8).getD 7 0)], .int .i64 0]) (by kernel_rfl)) ?_
    refine K.RW.q rfl rfl (K.QR.k (v := .agg #[.int .u64 ((wordsT (bytesL (ln8 l)) 8).getD 0 0), .int .u64 ((wordsT (bytesL (ln8 l)) 8).getD 1 0), .int .u64 ((wordsT (bytesL (ln8 l)) 8).getD 2 0), .int .u64 ((wordsT (bytesL (ln8 l)) 8).getD 3 0), .int .u64 ((wordsT (bytesL (ln8 l)) 8).getD 4 0), .int .u64 ((wordsT (bytesL (ln8 l)) 8).getD 5 0), .int .u64 ((wordsT (bytesL (ln8 l)) 8).getD 6 0), .int .u64 ((wordsT (bytesL (ln8 l)) 8).getD 7 0)]) (by kernel_rfl)) ?_
    refine K.RW.q rfl rfl (K.QR.k (v := .int .i64 0) (by kernel_rfl)) ?_
    refine K.RW.l rfl (K.OW.new (t := 24) rfl (fun r => .pointer (some ⟨r, 0, none⟩)) [.int .u64 0, .int .u64 0, .int .u64 0, .int .u64 0, .int .u64 0, .int .u64 0, .int .u64 0, .int .u64 0] (by kernel_rfl) ?_) 
    intro w_38 r_39 hr_40 e_41 hs_42 b_43
    have c_44 := c_33.no e_41
    have z_45 := c_44.size
    have zz_46 := e_41.size
    have f_47 := f_36.no e_41
    have f_48 := f_37.no e_41
    refine K.RW.l rfl (K.OW.st [.int .u64 ((wordsT (bytesL (ln8 l)) 8).getD 0 0), .int .u64 ((wordsT (bytesL (ln8 l)) 8).getD 1 0), .int .u64 ((wordsT (bytesL (ln8 l)) 8).getD 2 0), .int .u64 ((wordsT (bytesL (ln8 l)) 8).getD 3 0), .int .u64 ((wordsT (bytesL (ln8 l)) 8).getD 4 0), .int .u64 ((wordsT (bytesL (ln8 l)) 8).getD 5 0), .int .u64 ((wordsT (bytesL (ln8 l)) 8).getD 6 0), .int .u64 ((wordsT (bytesL (ln8 l)) 8).getD 7 0)] [.int .u64 ((wordsT (bytesL (ln8 l)) 8).getD 0 0), .int .u64 ((wordsT (bytesL (ln8 l)) 8).getD 1 0), .int .u64 ((wordsT (bytesL (ln8 l)) 8).getD 2 0), .int .u64 ((wordsT (bytesL (ln8 l)) 8).getD 3 0), .int .u64 ((wordsT (bytesL (ln8 l)) 8).getD 4 0), .int .u64 ((wordsT (bytesL (ln8 l)) 8).getD 5 0), .int .u64 ((wordsT (bytesL (ln8 l)) 8).getD 6 0), .int .u64 ((wordsT (bytesL (ln8 l)) 8).getD 7 0)] rfl rfl rfl (by kernel_rfl) b_43 rfl (K.one_cells (by rfl)) rfl rfl ?_) 
    intro w_49 e_50 hs_51 b_52
    have c_53 := c_44.own e_50 (by omega)
    have z_54 := c_53.size
    have zz_55 := e_50.size
    have f_56 := f_47.chg e_50 (by unfold K.Is; omega)
    have f_57 := f_48.chg e_50 (fun k hk hy => f_48.ne_ty b_43 (by decide) k hk hy)
    refine K.RW.q rfl rfl (K.QR.k (v := .int .i64 0) (by kernel_rfl)) ?_
    refine K.RW.nil ?_
    refine K.thn_normal ?_
    refine K.KW.seq ?_
    -- region 5 law.go:47
    refine K.KW.region ?_
    refine K.RW.q rfl rfl (K.QR.k (v := .slice a xs.length cap) (by kernel_rfl)) ?_
    refine K.RW.l rfl (K.OW.call rfl [.slice a xs.length cap] rfl rfl (by kernel_rfl) (readAlt_ok _ _ _ xs _ (by omega) rfl (by first | omega | assumption) (by first | assumption | exact bytesL_bytes _ | exact allBytes_sub (by assumption) (mem_take) | exact allBytes_sub (by assumption) (fun x h => mem_drop x (mem_take x h))) (hx.no c_53)) ?_) 
    rintro v_58 w_59 (⟨hy_60, rfl, c_61⟩ | ⟨hn_62, rfl, c_63⟩)
    ·  -- bytes of a line
      have c_64 := c_53.no c_61
      have z_65 := c_64.size
      have zz_66 := c_61.size
      have f_67 := f_56.no c_61
      have f_68 := f_57.no c_61
      have f_69 := b_52.no c_61
      refine K.RW.q rfl rfl (K.QR.k (v := .tuple #[.agg #[.int .u64 ((wordsT xs 8).getD 0 0), .int .u64 ((wordsT xs 8).getD 1 0), .int .u64 ((wordsT xs 8).getD 2 0), .int .u64 ((wordsT xs 8).getD 3 0), .int .u64 ((wordsT xs 8).getD 4 0), .int .u64 ((wordsT xs 8).getD 5 0), .int .u64 ((wordsT xs 8).getD 6 0), .int .u64 ((wordsT xs 8).getD 7 0)], .int .i64 0]) (by kernel_rfl)) ?_
      refine K.RW.q rfl rfl (K.QR.k (v := .agg #[.int .u64 ((wordsT xs 8).getD 0 0), .int .u64 ((wordsT xs 8).getD 1 0), .int .u64 ((wordsT xs 8).getD 2 0), .int .u64 ((wordsT xs 8).getD 3 0), .int .u64 ((wordsT xs 8).getD 4 0), .int .u64 ((wordsT xs 8).getD 5 0), .int .u64 ((wordsT xs 8).getD 6 0), .int .u64 ((wordsT xs 8).getD 7 0)]) (by kernel_rfl)) ?_
      refine K.RW.q rfl rfl (K.QR.k (v := .int .i64 0) (by kernel_rfl)) ?_
      refine K.RW.l rfl (K.OW.new (t := 24) rfl (fun r => .pointer (some ⟨r, 0, none⟩)) [.int .u64 0, .int .u64 0, .int .u64 0, .int .u64 0, .int .u64 0, .int .u64 0, .int .u64 0, .int .u64 0] (by kernel_rfl) ?_) 
      intro w_70 r_71 hr_72 e_73 hs_74 b_75
      have c_76 := c_64.no e_73
      have z_77 := c_76.size
      have zz_78 := e_73.size
      have f_79 := f_67.no e_73
      have f_80 := f_68.no e_73
      have f_81 := f_69.no e_73
      refine K.RW.l rfl (K.OW.st [.int .u64 ((wordsT xs 8).getD 0 0), .int .u64 ((wordsT xs 8).getD 1 0), .int .u64 ((wordsT xs 8).getD 2 0), .int .u64 ((wordsT xs 8).getD 3 0), .int .u64 ((wordsT xs 8).getD 4 0), .int .u64 ((wordsT xs 8).getD 5 0), .int .u64 ((wordsT xs 8).getD 6 0), .int .u64 ((wordsT xs 8).getD 7 0)] [.int .u64 ((wordsT xs 8).getD 0 0), .int .u64 ((wordsT xs 8).getD 1 0), .int .u64 ((wordsT xs 8).getD 2 0), .int .u64 ((wordsT xs 8).getD 3 0), .int .u64 ((wordsT xs 8).getD 4 0), .int .u64 ((wordsT xs 8).getD 5 0), .int .u64 ((wordsT xs 8).getD 6 0), .int .u64 ((wordsT xs 8).getD 7 0)] rfl rfl rfl (by kernel_rfl) b_75 rfl (K.one_cells (by rfl)) rfl rfl ?_) 
      intro w_82 e_83 hs_84 b_85
      have c_86 := c_76.own e_83 (by omega)
      have z_87 := c_86.size
      have zz_88 := e_83.size
      have f_89 := f_79.chg e_83 (by unfold K.Is; omega)
      have f_90 := f_80.chg e_83 (fun k hk hy => f_80.ne_ty b_75 (by decide) k hk hy)
      have f_91 := f_81.chg e_83 (by unfold K.Is; omega)
      refine K.RW.q rfl rfl (K.QR.k (v := .int .i64 0) (by kernel_rfl)) ?_
      refine K.RW.nil ?_
      refine K.thn_normal ?_
      refine K.KW.seq ?_
      refine K.KW.seq ?_
      -- region 6 law.go:48
      have o_92 := K.Own.of_blkL (base := w0.heap.size) (n := 8) (c := cU64) (L := ([l.getD 0 0, l.getD 1 0, l.getD 2 0, l.getD 3 0, l.getD 4 0, l.getD 5 0, l.getD 6 0, l.getD 7 0] : List Int)) f_89 (by omega) rfl (by unfold maxLen; omega) (fun _ => rfl) rfl
      refine K.KW.drawn (fun w => K.Chg K.No w0 w ∧ (w.cell? ⟨r_39, 0, none⟩ = some (.int .u64 ((wordsT (bytesL (ln8 l)) 8).getD 0 0))) ∧ (w.cell? ⟨r_39, 1, none⟩ = some (.int .u64 ((wordsT (bytesL (ln8 l)) 8).getD 1 0))) ∧ (w.cell? ⟨r_39, 2, none⟩ = some (.int .u64 ((wordsT (bytesL (ln8 l)) 8).getD 2 0))) ∧ (w.cell? ⟨r_39, 3, none⟩ = some (.int .u64 ((wordsT (bytesL (ln8 l)) 8).getD 3 0))) ∧ (w.cell? ⟨r_39, 4, none⟩ = some (.int .u64 ((wordsT (bytesL (ln8 l)) 8).getD 4 0))) ∧ (w.cell? ⟨r_39, 5, none⟩ = some (.int .u64 ((wordsT (bytesL (ln8 l)) 8).getD 5 0))) ∧ (w.cell? ⟨r_39, 6, none⟩ = some (.int .u64 ((wordsT (bytesL (ln8 l)) 8).getD 6 0))) ∧ (w.cell? ⟨r_39, 7, none⟩ = some (.int .u64 ((wordsT (bytesL (ln8 l)) 8).getD 7 0))) ∧ K.Own w w0.heap.size 5 1 r_17 64 cc_19 (((bytesL (ln8 l))).flatMap cU8)) (by kernel_rfl) ?_
      intro w_93 e_94 hs_95
      have c_97 := c_86.no e_94
      have z_98 := c_97.size
      have zz_99 := e_94.size
      have f_100 := f_90.no e_94
      have f_101 := f_91.no e_94
      have f_102 := b_85.no e_94
      have f_103 := o_92.no e_94
      have hS_96 : (fun w => K.Chg K.No w0 w ∧ (w.cell? ⟨r_39, 0, none⟩ = some (.int .u64 ((wordsT (bytesL (ln8 l)) 8).getD 0 0))) ∧ (w.cell? ⟨r_39, 1, none⟩ = some (.int .u64 ((wordsT (bytesL (ln8 l)) 8).getD 1 0))) ∧ (w.cell? ⟨r_39, 2, none⟩ = some (.int .u64 ((wordsT (bytesL (ln8 l)) 8).getD 2 0))) ∧ (w.cell? ⟨r_39, 3, none⟩ = some (.int .u64 ((wordsT (bytesL (ln8 l)) 8).getD 3 0))) ∧ (w.cell? ⟨r_39, 4, none⟩ = some (.int .u64 ((wordsT (bytesL (ln8 l)) 8).getD 4 0))) ∧ (w.cell? ⟨r_39, 5, none⟩ = some (.int .u64 ((wordsT (bytesL (ln8 l)) 8).getD 5 0))) ∧ (w.cell? ⟨r_39, 6, none⟩ = some (.int .u64 ((wordsT (bytesL (ln8 l)) 8).getD 6 0))) ∧ (w.cell? ⟨r_39, 7, none⟩ = some (.int .u64 ((wordsT (bytesL (ln8 l)) 8).getD 7 0))) ∧ K.Own w w0.heap.size 5 1 r_17 64 cc_19 (((bytesL (ln8 l))).flatMap cU8)) w_93 := ⟨c_97, ((f_101).cell rfl), ((f_101).cell rfl), ((f_101).cell rfl), ((f_101).cell rfl), ((f_101).cell rfl), ((f_101).cell rfl), ((f_101).cell rfl), ((f_101).cell rfl), f_100⟩
      refine K.DW.q 0 (by kernel_rfl) rfl rfl (by kernel_rfl) rfl (fun w hS => K.QR.k (v := .slice r_17 64 cc_19) (by kernel_rfl)) hS_96 ?_
      refine K.DW.q 1 (by kernel_rfl) rfl rfl (by kernel_rfl) rfl (fun w hS => K.QR.b2s (xs := (bytesL (ln8 l))) rfl rfl Try.underlying25 Try.underlying5 Try.underlying9 rfl (K.Own.rowE 0 (hS.2.2.2.2.2.2.2.2.2) rfl (fun _ => rfl))) hS_96 ?_
      refine K.DW.l 2 rfl (by kernel_rfl) rfl (K.OW.q rfl (K.QR.slArr (size := 1) rfl rfl Try.underlying24 (by kernel_rfl)) ?_)
      refine ⟨.inl hS_96, ?_⟩
      refine K.DW.l 3 rfl (by kernel_rfl) rfl (K.OW.call rfl [.slice (some ⟨r_2, 0, none⟩) 8 8] rfl rfl (by kernel_rfl) (rbytes_ok _ _ ([l.getD 0 0, l.getD 1 0, l.getD 2 0, l.getD 3 0, l.getD 4 0, l.getD 5 0, l.getD 6 0, l.getD 7 0] : List Int) _ (by first | omega | (simp; omega) | (simp; done)) (by first | assumption | exact ln8_words (by assumption) | exact flat_words (by assumption) | exact words_words (by assumption) _ | exact ln8_words (words_words (by assumption) _) | (apply allWords_lit; decide)) (K.Own.rowE 0 f_103 rfl (fun _ => rfl))) ?_)
      rintro _ w_110 ⟨r_104, m_105, cc_106, rfl, c_107, o_108, rfl⟩
      have c_111 := c_97.no c_107
      have z_112 := c_111.size
      have zz_113 := c_107.size
      have f_114 := f_100.no c_107
      have f_115 := f_101.no c_107
      have f_116 := f_102.no c_107
      have f_117 := f_103.no c_107
      have o_118 := K.Own.mono (base' := w0.heap.size) o_108 (by omega)
      have hS_119 : (fun w => K.Chg K.No w0 w ∧ (w.cell? ⟨r_39, 0, none⟩ = some (.int .u64 ((wordsT (bytesL (ln8 l)) 8).getD 0 0))) ∧ (w.cell? ⟨r_39, 1, none⟩ = some (.int .u64 ((wordsT (bytesL (ln8 l)) 8).getD 1 0))) ∧ (w.cell? ⟨r_39, 2, none⟩ = some (.int .u64 ((wordsT (bytesL (ln8 l)) 8).getD 2 0))) ∧ (w.cell? ⟨r_39, 3, none⟩ = some (.int .u64 ((wordsT (bytesL (ln8 l)) 8).getD 3 0))) ∧ (w.cell? ⟨r_39, 4, none⟩ = some (.int .u64 ((wordsT (bytesL (ln8 l)) 8).getD 4 0))) ∧ (w.cell? ⟨r_39, 5, none⟩ = some (.int .u64 ((wordsT (bytesL (ln8 l)) 8).getD 5 0))) ∧ (w.cell? ⟨r_39, 6, none⟩ = some (.int .u64 ((wordsT (bytesL (ln8 l)) 8).getD 6 0))) ∧ (w.cell? ⟨r_39, 7, none⟩ = some (.int .u64 ((wordsT (bytesL (ln8 l)) 8).getD 7 0))) ∧ K.Own w w0.heap.size 5 1 r_17 64 cc_19 (((bytesL (ln8 l))).flatMap cU8)) w_110 := ⟨c_111, ((f_115).cell rfl), ((f_115).cell rfl), ((f_115).cell rfl), ((f_115).cell rfl), ((f_115).cell rfl), ((f_115).cell rfl), ((f_115).cell rfl), ((f_115).cell rfl), f_114⟩
      refine ⟨.inl hS_119, ?_⟩
      refine K.DW.l 4 rfl (by kernel_rfl) rfl (K.OW.q rfl (K.QR.b2s (xs := (bytesL ([l.getD 0 0, l.getD 1 0, l.getD 2 0, l.getD 3 0, l.getD 4 0, l.getD 5 0, l.getD 6 0, l.getD 7 0] : List Int))) rfl rfl Try.underlying25 Try.underlying5 Try.underlying9 rfl (K.Own.rowE 0 o_118 rfl (fun _ => rfl))) ?_)
      refine ⟨.inl hS_119, ?_⟩
      refine K.DW.l 5 rfl (by kernel_rfl) rfl (K.OW.q rfl (K.QR.turn (K.QR.strNe rfl rfl rfl) (show _ = Value.bool false from congrArg Value.bool (by (rw [show ((bytesL (ln8 l)) = (bytesL ([l.getD 0 0, l.getD 1 0, l.getD 2 0, l.getD 3 0, l.getD 4 0, l.getD 5 0, l.getD 6 0, l.getD 7 0] : List Int))) from (rfl)]) <;> simp))) ?_)
      refine ⟨.inl hS_119, ?_⟩
      refine K.DW.l 6 rfl (by kernel_rfl) rfl (K.OW.q rfl (K.QR.k (v := .bool false) (by kernel_rfl)) ?_)
      refine ⟨.inl hS_119, ?_⟩
      refine K.DW.l 7 rfl (by kernel_rfl) (by kernel_rfl) (K.OW.q rfl (K.QR.k (v := .int .i64 0) (by kernel_rfl)) ?_)
      refine ⟨.inl hS_119, ?_⟩
      refine K.DW.l 8 rfl (by kernel_rfl) (by kernel_rfl) (K.OW.q rfl (K.QR.k (v := .bool false) (by kernel_rfl)) ?_)
      refine ⟨.inl hS_119, ?_⟩
      refine K.DW.l 9 rfl (by kernel_rfl) rfl (K.OW.q rfl (K.QR.k (v := .bool false) (by kernel_rfl)) ?_)
      refine ⟨.inl hS_119, ?_⟩
      refine K.DW.l 10 rfl (by kernel_rfl) rfl (K.OW.q rfl (K.QR.k (v := .bool false) (by kernel_rfl)) ?_)
      refine ⟨.inl hS_119, ?_⟩
      refine K.DW.q 11 (by kernel_rfl) rfl rfl (by kernel_rfl) (by kernel_rfl) (fun w hS => K.QR.ldN [.int .u64 ((wordsT (bytesL (ln8 l)) 8).getD 0 0), .int .u64 ((wordsT (bytesL (ln8 l)) 8).getD 1 0), .int .u64 ((wordsT (bytesL (ln8 l)) 8).getD 2 0), .int .u64 ((wordsT (bytesL (ln8 l)) 8).getD 3 0), .int .u64 ((wordsT (bytesL (ln8 l)) 8).getD 4 0), .int .u64 ((wordsT (bytesL (ln8 l)) 8).getD 5 0), .int .u64 ((wordsT (bytesL (ln8 l)) 8).getD 6 0), .int .u64 ((wordsT (bytesL (ln8 l)) 8).getD 7 0)] rfl rfl (by kernel_rfl) (by kernel_rfl) (K.cells (K.cl (hS.2.1) (K.cl (hS.2.2.1) (K.cl (hS.2.2.2.1) (K.cl (hS.2.2.2.2.1) (K.cl (hS.2.2.2.2.2.1) (K.cl (hS.2.2.2.2.2.2.1) (K.cl (hS.2.2.2.2.2.2.2.1) (K.cl (hS.2.2.2.2.2.2.2.2.1) K.cl0)))))))))) hS_119 ?_
      refine K.DW.l 12 rfl (by kernel_rfl) (by kernel_rfl) (K.OW.q rfl (K.QR.ldN [.int .u64 (([l.getD 0 0, l.getD 1 0, l.getD 2 0, l.getD 3 0, l.getD 4 0, l.getD 5 0, l.getD 6 0, l.getD 7 0] : List Int).getD 0 0), .int .u64 (([l.getD 0 0, l.getD 1 0, l.getD 2 0, l.getD 3 0, l.getD 4 0, l.getD 5 0, l.getD 6 0, l.getD 7 0] : List Int).getD 1 0), .int .u64 (([l.getD 0 0, l.getD 1 0, l.getD 2 0, l.getD 3 0, l.getD 4 0, l.getD 5 0, l.getD 6 0, l.getD 7 0] : List Int).getD 2 0), .int .u64 (([l.getD 0 0, l.getD 1 0, l.getD 2 0, l.getD 3 0, l.getD 4 0, l.getD 5 0, l.getD 6 0, l.getD 7 0] : List Int).getD 3 0), .int .u64 (([l.getD 0 0, l.getD 1 0, l.getD 2 0, l.getD 3 0, l.getD 4 0, l.getD 5 0, l.getD 6 0, l.getD 7 0] : List Int).getD 4 0), .int .u64 (([l.getD 0 0, l.getD 1 0, l.getD 2 0, l.getD 3 0, l.getD 4 0, l.getD 5 0, l.getD 6 0, l.getD 7 0] : List Int).getD 5 0), .int .u64 (([l.getD 0 0, l.getD 1 0, l.getD 2 0, l.getD 3 0, l.getD 4 0, l.getD 5 0, l.getD 6 0, l.getD 7 0] : List Int).getD 6 0), .int .u64 (([l.getD 0 0, l.getD 1 0, l.getD 2 0, l.getD 3 0, l.getD 4 0, l.getD 5 0, l.getD 6 0, l.getD 7 0] : List Int).getD 7 0)] rfl rfl (by kernel_rfl) (by kernel_rfl) (K.cells (K.cl ((K.Own.rowE 0 f_117 rfl (fun _ => rfl)).ld 0 (by omega) 0 _ rfl) (K.cl ((K.Own.rowE 0 f_117 rfl (fun _ => rfl)).ld 1 (by omega) 0 _ rfl) (K.cl ((K.Own.rowE 0 f_117 rfl (fun _ => rfl)).ld 2 (by omega) 0 _ rfl) (K.cl ((K.Own.rowE 0 f_117 rfl (fun _ => rfl)).ld 3 (by omega) 0 _ rfl) (K.cl ((K.Own.rowE 0 f_117 rfl (fun _ => rfl)).ld 4 (by omega) 0 _ rfl) (K.cl ((K.Own.rowE 0 f_117 rfl (fun _ => rfl)).ld 5 (by omega) 0 _ rfl) (K.cl ((K.Own.rowE 0 f_117 rfl (fun _ => rfl)).ld 6 (by omega) 0 _ rfl) (K.cl ((K.Own.rowE 0 f_117 rfl (fun _ => rfl)).ld 7 (by omega) 0 _ rfl) K.cl0)))))))))) ?_)
      refine ⟨.inl hS_119, ?_⟩
      refine K.DW.l 13 rfl (by kernel_rfl) (by kernel_rfl) (K.OW.q rfl (K.QR.neS (by kernel_rfl) rfl rfl rfl (eqLine_t (by exact line_eq hw))) ?_)
      refine ⟨.inl hS_119, ?_⟩
      refine K.DW.l 14 rfl (by kernel_rfl) rfl (K.OW.q rfl (K.QR.k (v := .bool false) (by kernel_rfl)) ?_)
      refine ⟨.inl hS_119, ?_⟩
      refine K.DW.done (by kernel_rfl) ?_
      refine K.thn_normal ?_
      refine K.KW.ifF rfl ?_
      refine K.KW.skip ?_
      refine K.thn_normal ?_
      refine K.KW.seq ?_
      refine K.KW.seq ?_
      -- region 8 law.go:51
      refine K.KW.region ?_
      refine K.RW.q rfl rfl (K.QR.k (v := .slice a xs.length cap) (by kernel_rfl)) ?_
      refine K.RW.q rfl rfl (K.QR.len (P := Try.prog) rfl rfl Try.underlying25) ?_
      refine K.RW.q rfl rfl (K.QR.nice (v := .bool ((((xs.length : Nat) : Int) : Int) != (64 : Int))) (by kernel_rfl) (congrArg Value.bool (bne_eq_false_iff_eq.2 hy_60))) ?_
      refine K.RW.nil ?_
      refine K.thn_normal ?_
      refine K.KW.ifF rfl ?_
      refine K.KW.skip ?_
      refine K.thn_normal ?_
      refine K.KW.seq ?_
      -- region 10 law.go:54
      have o_120 := K.Own.of_blkL (base := w0.heap.size) (n := 8) (c := cU64) (L := ([(wordsT xs 8).getD 0 0, (wordsT xs 8).getD 1 0, (wordsT xs 8).getD 2 0, (wordsT xs 8).getD 3 0, (wordsT xs 8).getD 4 0, (wordsT xs 8).getD 5 0, (wordsT xs 8).getD 6 0, (wordsT xs 8).getD 7 0] : List Int)) f_116 (by omega) rfl (by unfold maxLen; omega) (fun _ => rfl) rfl
      refine K.KW.drawn (fun w => K.Chg K.No w0 w ∧ K.Own w w0.heap.size 24 1 (some ⟨r_71, 0, none⟩) 8 8 ((([(wordsT xs 8).getD 0 0, (wordsT xs 8).getD 1 0, (wordsT xs 8).getD 2 0, (wordsT xs 8).getD 3 0, (wordsT xs 8).getD 4 0, (wordsT xs 8).getD 5 0, (wordsT xs 8).getD 6 0, (wordsT xs 8).getD 7 0] : List Int)).flatMap cU64)) (by kernel_rfl) ?_
      intro w_121 e_122 hs_123
      have c_125 := c_111.no e_122
      have z_126 := c_125.size
      have zz_127 := e_122.size
      have f_128 := f_114.no e_122
      have f_129 := f_115.no e_122
      have f_130 := f_117.no e_122
      have f_131 := o_118.no e_122
      have f_132 := o_120.no e_122
      have hS_124 : (fun w => K.Chg K.No w0 w ∧ K.Own w w0.heap.size 24 1 (some ⟨r_71, 0, none⟩) 8 8 ((([(wordsT xs 8).getD 0 0, (wordsT xs 8).getD 1 0, (wordsT xs 8).getD 2 0, (wordsT xs 8).getD 3 0, (wordsT xs 8).getD 4 0, (wordsT xs 8).getD 5 0, (wordsT xs 8).getD 6 0, (wordsT xs 8).getD 7 0] : List Int)).flatMap cU64)) w_121 := ⟨c_125, f_132⟩
      refine K.DW.l 0 rfl (by kernel_rfl) rfl (K.OW.call rfl [] rfl rfl (by kernel_rfl) (awake03_ok _) ?_)
      rintro _ w_134 ⟨rfl, c_133⟩
      have c_135 := c_125.no c_133
      have z_136 := c_135.size
      have zz_137 := c_133.size
      have f_138 := f_128.no c_133
      have f_139 := f_129.no c_133
      have f_140 := f_130.no c_133
      have f_141 := f_131.no c_133
      have f_142 := f_132.no c_133
      have hS_143 : (fun w => K.Chg K.No w0 w ∧ K.Own w w0.heap.size 24 1 (some ⟨r_71, 0, none⟩) 8 8 ((([(wordsT xs 8).getD 0 0, (wordsT xs 8).getD 1 0, (wordsT xs 8).getD 2 0, (wordsT xs 8).getD 3 0, (wordsT xs 8).getD 4 0, (wordsT xs 8).getD 5 0, (wordsT xs 8).getD 6 0, (wordsT xs 8).getD 7 0] : List Int)).flatMap cU64)) w_134 := ⟨c_135, f_142⟩
      refine ⟨.inl hS_143, ?_⟩
      refine K.DW.l 1 rfl (by kernel_rfl) rfl (K.OW.q rfl (K.QR.k (v := .bool true) (by kernel_rfl)) ?_)
      refine ⟨.inl hS_143, ?_⟩
      refine K.DW.l 2 rfl (by kernel_rfl) (by kernel_rfl) (K.OW.q rfl (K.QR.k (v := .int .i64 0) (by kernel_rfl)) ?_)
      refine ⟨.inl hS_143, ?_⟩
      refine K.DW.l 3 rfl (by kernel_rfl) (by kernel_rfl) (K.OW.q rfl (K.QR.k (v := .bool true) (by kernel_rfl)) ?_)
      refine ⟨.inl hS_143, ?_⟩
      refine K.DW.l 4 rfl (by kernel_rfl) rfl (K.OW.q rfl (K.QR.k (v := .bool true) (by kernel_rfl)) ?_)
      refine ⟨.inl hS_143, ?_⟩
      refine K.DW.l 5 rfl (by kernel_rfl) rfl (K.OW.q rfl (K.QR.k (v := .bool true) (by kernel_rfl)) ?_)
      refine ⟨.inl hS_143, ?_⟩
      refine K.DW.q 6 (by kernel_rfl) rfl rfl (by kernel_rfl) (by kernel_rfl) (fun w hS => K.QR.slArr (size := 1) rfl rfl Try.underlying24 (by kernel_rfl)) hS_143 ?_
      refine K.DW.l 7 rfl (by kernel_rfl) (by kernel_rfl) (K.OW.q rfl (K.QR.k (v := .slice a xs.length cap) (by kernel_rfl)) ?_)
      refine ⟨.inl hS_143, ?_⟩
      refine K.DW.l 8 rfl (by kernel_rfl) (by kernel_rfl) (K.OW.call rfl [.slice a xs.length cap] rfl rfl (by kernel_rfl) (rwords_ok _ _ xs _ (by first | omega | (simp; omega) | (simp; done)) (by first | assumption | exact bytesL_bytes _ | exact allBytes_sub (by assumption) (mem_take) | exact allBytes_sub (by assumption) (fun x h => mem_drop x (mem_take x h))) (hx.no c_135)) ?_)
      rintro _ w_150 ⟨r_144, m_145, cc_146, rfl, c_147, o_148, rfl⟩
      have c_151 := c_135.no c_147
      have z_152 := c_151.size
      have zz_153 := c_147.size
      have f_154 := f_138.no c_147
      have f_155 := f_139.no c_147
      have f_156 := f_140.no c_147
      have f_157 := f_141.no c_147
      have f_158 := f_142.no c_147
      have o_159 := K.Own.mono (base' := w0.heap.size) o_148 (by omega)
      have hS_160 : (fun w => K.Chg K.No w0 w ∧ K.Own w w0.heap.size 24 1 (some ⟨r_71, 0, none⟩) 8 8 ((([(wordsT xs 8).getD 0 0, (wordsT xs 8).getD 1 0, (wordsT xs 8).getD 2 0, (wordsT xs 8).getD 3 0, (wordsT xs 8).getD 4 0, (wordsT xs 8).getD 5 0, (wordsT xs 8).getD 6 0, (wordsT xs 8).getD 7 0] : List Int)).flatMap cU64)) w_150 := ⟨c_151, f_158⟩
      refine ⟨.inl hS_160, ?_⟩
      refine K.DW.l 9 rfl (by kernel_rfl) (by kernel_rfl) (K.OW.call rfl [.slice (some ⟨r_71, 0, none⟩) 8 8, .slice r_144 ((wordsL xs).length) cc_146] rfl rfl (by kernel_rfl) (same_ok _ _ _ _ ([(wordsT xs 8).getD 0 0, (wordsT xs 8).getD 1 0, (wordsT xs 8).getD 2 0, (wordsT xs 8).getD 3 0, (wordsT xs 8).getD 4 0, (wordsT xs 8).getD 5 0, (wordsT xs 8).getD 6 0, (wordsT xs 8).getD 7 0] : List Int) (wordsL xs) _ (by first | omega | (simp; omega) | simp) (K.Own.rowE 0 f_158 rfl (fun _ => rfl)) (K.Own.rowE 0 o_159 rfl (fun _ => rfl))) ?_)
      rintro v_164 w_162 ⟨hv_163, c_161⟩
      have c_165 := c_151.no c_161
      have z_166 := c_165.size
      have zz_167 := c_161.size
      have f_168 := f_154.no c_161
      have f_169 := f_155.no c_161
      have f_170 := f_156.no c_161
      have f_171 := f_157.no c_161
      have f_172 := f_158.no c_161
      have f_173 := o_159.no c_161
      have hb_174 : sameB ([(wordsT xs 8).getD 0 0, (wordsT xs 8).getD 1 0, (wordsT xs 8).getD 2 0, (wordsT xs 8).getD 3 0, (wordsT xs 8).getD 4 0, (wordsT xs 8).getD 5 0, (wordsT xs 8).getD 6 0, (wordsT xs 8).getD 7 0] : List Int) (wordsL xs) = true := (decide_eq_true (line_same (by assumption)))
      rw [hb_174] at hv_163; subst hv_163
      have hS_175 : (fun w => K.Chg K.No w0 w ∧ K.Own w w0.heap.size 24 1 (some ⟨r_71, 0, none⟩) 8 8 ((([(wordsT xs 8).getD 0 0, (wordsT xs 8).getD 1 0, (wordsT xs 8).getD 2 0, (wordsT xs 8).getD 3 0, (wordsT xs 8).getD 4 0, (wordsT xs 8).getD 5 0, (wordsT xs 8).getD 6 0, (wordsT xs 8).getD 7 0] : List Int)).flatMap cU64)) w_162 := ⟨c_165, f_172⟩
      refine ⟨.inl hS_175, ?_⟩
      refine K.DW.l 10 rfl (by kernel_rfl) rfl (K.OW.q rfl (K.QR.k (v := .bool true) (by kernel_rfl)) ?_)
      refine ⟨.inl hS_175, ?_⟩
      refine K.DW.l 11 rfl (by kernel_rfl) rfl (K.OW.q rfl (K.QR.k (v := .bool true) (by kernel_rfl)) ?_)
      refine ⟨.inl hS_175, ?_⟩
      refine K.DW.q 12 (by kernel_rfl) rfl rfl (by kernel_rfl) (by kernel_rfl) (fun w hS => K.QR.ldN [.int .u64 (([(wordsT xs 8).getD 0 0, (wordsT xs 8).getD 1 0, (wordsT xs 8).getD 2 0, (wordsT xs 8).getD 3 0, (wordsT xs 8).getD 4 0, (wordsT xs 8).getD 5 0, (wordsT xs 8).getD 6 0, (wordsT xs 8).getD 7 0] : List Int).getD 0 0), .int .u64 (([(wordsT xs 8).getD 0 0, (wordsT xs 8).getD 1 0, (wordsT xs 8).getD 2 0, (wordsT xs 8).getD 3 0, (wordsT xs 8).getD 4 0, (wordsT xs 8).getD 5 0, (wordsT xs 8).getD 6 0, (wordsT xs 8).getD 7 0] : List Int).getD 1 0), .int .u64 (([(wordsT xs 8).getD 0 0, (wordsT xs 8).getD 1 0, (wordsT xs 8).getD 2 0, (wordsT xs 8).getD 3 0, (wordsT xs 8).getD 4 0, (wordsT xs 8).getD 5 0, (wordsT xs 8).getD 6 0, (wordsT xs 8).getD 7 0] : List Int).getD 2 0), .int .u64 (([(wordsT xs 8).getD 0 0, (wordsT xs 8).getD 1 0, (wordsT xs 8).getD 2 0, (wordsT xs 8).getD 3 0, (wordsT xs 8).getD 4 0, (wordsT xs 8).getD 5 0, (wordsT xs 8).getD 6 0, (wordsT xs 8).getD 7 0] : List Int).getD 3 0), .int .u64 (([(wordsT xs 8).getD 0 0, (wordsT xs 8).getD 1 0, (wordsT xs 8).getD 2 0, (wordsT xs 8).getD 3 0, (wordsT xs 8).getD 4 0, (wordsT xs 8).getD 5 0, (wordsT xs 8).getD 6 0, (wordsT xs 8).getD 7 0] : List Int).getD 4 0), .int .u64 (([(wordsT xs 8).getD 0 0, (wordsT xs 8).getD 1 0, (wordsT xs 8).getD 2 0, (wordsT xs 8).getD 3 0, (wordsT xs 8).getD 4 0, (wordsT xs 8).getD 5 0, (wordsT xs 8).getD 6 0, (wordsT xs 8).getD 7 0] : List Int).getD 5 0), .int .u64 (([(wordsT xs 8).getD 0 0, (wordsT xs 8).getD 1 0, (wordsT xs 8).getD 2 0, (wordsT xs 8).getD 3 0, (wordsT xs 8).getD 4 0, (wordsT xs 8).getD 5 0, (wordsT xs 8).getD 6 0, (wordsT xs 8).getD 7 0] : List Int).getD 6 0), .int .u64 (([(wordsT xs 8).getD 0 0, (wordsT xs 8).getD 1 0, (wordsT xs 8).getD 2 0, (wordsT xs 8).getD 3 0, (wordsT xs 8).getD 4 0, (wordsT xs 8).getD 5 0, (wordsT xs 8).getD 6 0, (wordsT xs 8).getD 7 0] : List Int).getD 7 0)] rfl rfl (by kernel_rfl) (by kernel_rfl) (K.cells (K.cl ((K.Own.rowE 0 (hS.2) rfl (fun _ => rfl)).ld 0 (by omega) 0 _ rfl) (K.cl ((K.Own.rowE 0 (hS.2) rfl (fun _ => rfl)).ld 1 (by omega) 0 _ rfl) (K.cl ((K.Own.rowE 0 (hS.2) rfl (fun _ => rfl)).ld 2 (by omega) 0 _ rfl) (K.cl ((K.Own.rowE 0 (hS.2) rfl (fun _ => rfl)).ld 3 (by omega) 0 _ rfl) (K.cl ((K.Own.rowE 0 (hS.2) rfl (fun _ => rfl)).ld 4 (by omega) 0 _ rfl) (K.cl ((K.Own.rowE 0 (hS.2) rfl (fun _ => rfl)).ld 5 (by omega) 0 _ rfl) (K.cl ((K.Own.rowE 0 (hS.2) rfl (fun _ => rfl)).ld 6 (by omega) 0 _ rfl) (K.cl ((K.Own.rowE 0 (hS.2) rfl (fun _ => rfl)).ld 7 (by omega) 0 _ rfl) K.cl0)))))))))) hS_175 ?_
      refine K.DW.q 15 (by kernel_rfl) rfl rfl (by kernel_rfl) (by kernel_rfl) (fun w hS => K.QR.k (v := .slice a xs.length cap) (by kernel_rfl)) hS_175 ?_
      refine K.DW.q 16 (by kernel_rfl) rfl rfl (by kernel_rfl) (by kernel_rfl) (fun w hS => K.QR.b2s (xs := xs) rfl rfl Try.underlying25 Try.underlying5 Try.underlying9 rfl (hx.no hS.1)) hS_175 ?_
      refine K.DW.l 13 rfl (by kernel_rfl) (by kernel_rfl) (K.OW.call rfl [.agg #[.int .u64 (([(wordsT xs 8).getD 0 0, (wordsT xs 8).getD 1 0, (wordsT xs 8).getD 2 0, (wordsT xs 8).getD 3 0, (wordsT xs 8).getD 4 0, (wordsT xs 8).getD 5 0, (wordsT xs 8).getD 6 0, (wordsT xs 8).getD 7 0] : List Int).getD 0 0), .int .u64 (([(wordsT xs 8).getD 0 0, (wordsT xs 8).getD 1 0, (wordsT xs 8).getD 2 0, (wordsT xs 8).getD 3 0, (wordsT xs 8).getD 4 0, (wordsT xs 8).getD 5 0, (wordsT xs 8).getD 6 0, (wordsT xs 8).getD 7 0] : List Int).getD 1 0), .int .u64 (([(wordsT xs 8).getD 0 0, (wordsT xs 8).getD 1 0, (wordsT xs 8).getD 2 0, (wordsT xs 8).getD 3 0, (wordsT xs 8).getD 4 0, (wordsT xs 8).getD 5 0, (wordsT xs 8).getD 6 0, (wordsT xs 8).getD 7 0] : List Int).getD 2 0), .int .u64 (([(wordsT xs 8).getD 0 0, (wordsT xs 8).getD 1 0, (wordsT xs 8).getD 2 0, (wordsT xs 8).getD 3 0, (wordsT xs 8).getD 4 0, (wordsT xs 8).getD 5 0, (wordsT xs 8).getD 6 0, (wordsT xs 8).getD 7 0] : List Int).getD 3 0), .int .u64 (([(wordsT xs 8).getD 0 0, (wordsT xs 8).getD 1 0, (wordsT xs 8).getD 2 0, (wordsT xs 8).getD 3 0, (wordsT xs 8).getD 4 0, (wordsT xs 8).getD 5 0, (wordsT xs 8).getD 6 0, (wordsT xs 8).getD 7 0] : List Int).getD 4 0), .int .u64 (([(wordsT xs 8).getD 0 0, (wordsT xs 8).getD 1 0, (wordsT xs 8).getD 2 0, (wordsT xs 8).getD 3 0, (wordsT xs 8).getD 4 0, (wordsT xs 8).getD 5 0, (wordsT xs 8).getD 6 0, (wordsT xs 8).getD 7 0] : List Int).getD 5 0), .int .u64 (([(wordsT xs 8).getD 0 0, (wordsT xs 8).getD 1 0, (wordsT xs 8).getD 2 0, (wordsT xs 8).getD 3 0, (wordsT xs 8).getD 4 0, (wordsT xs 8).getD 5 0, (wordsT xs 8).getD 6 0, (wordsT xs 8).getD 7 0] : List Int).getD 6 0), .int .u64 (([(wordsT xs 8).getD 0 0, (wordsT xs 8).getD 1 0, (wordsT xs 8).getD 2 0, (wordsT xs 8).getD 3 0, (wordsT xs 8).getD 4 0, (wordsT xs 8).getD 5 0, (wordsT xs 8).getD 6 0, (wordsT xs 8).getD 7 0] : List Int).getD 7 0)]] rfl rfl (by kernel_rfl) (lBytes_ok ([(wordsT xs 8).getD 0 0, (wordsT xs 8).getD 1 0, (wordsT xs 8).getD 2 0, (wordsT xs 8).getD 3 0, (wordsT xs 8).getD 4 0, (wordsT xs 8).getD 5 0, (wordsT xs 8).getD 6 0, (wordsT xs 8).getD 7 0] : List Int) _ (by first | assumption | exact ln8_words (by assumption) | exact flat_words (by assumption) | exact words_words (by assumption) _ | exact ln8_words (words_words (by assumption) _) | (apply allWords_lit; decide))) ?_)
      rintro v_184 w_182 ⟨r_176, m_177, cc_178, hv_183, c_179, o_180, l_181⟩
      obtain rfl : 64 = m_177 := l_181
      subst hv_183
      have c_185 := c_165.no c_179
      have z_186 := c_185.size
      have zz_187 := c_179.size
      have f_188 := f_168.no c_179
      have f_189 := f_169.no c_179
      have f_190 := f_170.no c_179
      have f_191 := f_171.no c_179
      have f_192 := f_172.no c_179
      have f_193 := f_173.no c_179
      have o_194 := K.Own.mono (base' := w0.heap.size) o_180 (by omega)
      have hS_195 : (fun w => K.Chg K.No w0 w ∧ K.Own w w0.heap.size 24 1 (some ⟨r_71, 0, none⟩) 8 8 ((([(wordsT xs 8).getD 0 0, (wordsT xs 8).getD 1 0, (wordsT xs 8).getD 2 0, (wordsT xs 8).getD 3 0, (wordsT xs 8).getD 4 0, (wordsT xs 8).getD 5 0, (wordsT xs 8).getD 6 0, (wordsT xs 8).getD 7 0] : List Int)).flatMap cU64)) w_182 := ⟨c_185, f_192⟩
      refine ⟨.inl hS_195, ?_⟩
      refine K.DW.l 14 rfl (by kernel_rfl) (by kernel_rfl) (K.OW.q rfl (K.QR.b2s (xs := (bytesL (ln8 ([(wordsT xs 8).getD 0 0, (wordsT xs 8).getD 1 0, (wordsT xs 8).getD 2 0, (wordsT xs 8).getD 3 0, (wordsT xs 8).getD 4 0, (wordsT xs 8).getD 5 0, (wordsT xs 8).getD 6 0, (wordsT xs 8).getD 7 0] : List Int)))) rfl rfl Try.underlying25 Try.underlying5 Try.underlying9 rfl (K.Own.rowE 0 o_194 rfl (fun _ => rfl))) ?_)
      refine ⟨.inl hS_195, ?_⟩
      refine K.DW.l 17 rfl (by kernel_rfl) (by kernel_rfl) (K.OW.q rfl (K.QR.turn (K.QR.strEq rfl rfl rfl) (show _ = Value.bool true from congrArg Value.bool (by (rw [show ((bytesL (ln8 ([(wordsT xs 8).getD 0 0, (wordsT xs 8).getD 1 0, (wordsT xs 8).getD 2 0, (wordsT xs 8).getD 3 0, (wordsT xs 8).getD 4 0, (wordsT xs 8).getD 5 0, (wordsT xs 8).getD 6 0, (wordsT xs 8).getD 7 0] : List Int))) = xs) from (by exact line_bytes hb (by assumption))]) <;> simp))) ?_)
      refine ⟨.inl hS_195, ?_⟩
      refine K.DW.l 18 rfl (by kernel_rfl) rfl (K.OW.q rfl (K.QR.k (v := .bool true) (by kernel_rfl)) ?_)
      refine ⟨.inl hS_195, ?_⟩
      refine K.DW.l 19 rfl (by kernel_rfl) rfl (K.OW.q rfl (K.QR.k (v := .bool true) (by kernel_rfl)) ?_)
      refine ⟨.inl hS_195, ?_⟩
      refine K.DW.done (by kernel_rfl) ?_
      refine K.thn_normal ?_
      refine K.KW.ret ?_
      refine ⟨.inr rfl, rfl, (.bool true), K.res1 rfl rfl, ?_⟩
      exact ⟨rfl, c_185⟩
    ·  -- bytes of a line
      have c_196 := c_53.no c_63
      have z_197 := c_196.size
      have zz_198 := c_63.size
      have f_199 := f_56.no c_63
      have f_200 := f_57.no c_63
      have f_201 := b_52.no c_63
      refine K.RW.q rfl rfl (K.QR.k (v := .tuple #[.agg #[.int .u64 0, .int .u64 0, .int .u64 0, .int .u64 0, .int .u64 0, .int .u64 0, .int .u64 0, .int .u64 0], .int .i64 3]) (by kernel_rfl)) ?_
      refine K.RW.q rfl rfl (K.QR.k (v := .agg #[.int .u64 0, .int .u64 0, .int .u64 0, .int .u64 0, .int .u64 0, .int .u64 0, .int .u64 0, .int .u64 0]) (by kernel_rfl)) ?_
      refine K.RW.q rfl rfl (K.QR.k (v := .int .i64 3) (by kernel_rfl)) ?_
      refine K.RW.l rfl (K.OW.new (t := 24) rfl (fun r => .pointer (some ⟨r, 0, none⟩)) [.int .u64 0, .int .u64 0, .int .u64 0, .int .u64 0, .int .u64 0, .int .u64 0, .int .u64 0, .int .u64 0] (by kernel_rfl) ?_) 
      intro w_202 r_203 hr_204 e_205 hs_206 b_207
      have c_208 := c_196.no e_205
      have z_209 := c_208.size
      have zz_210 := e_205.size
      have f_211 := f_199.no e_205
      have f_212 := f_200.no e_205
      have f_213 := f_201.no e_205
      refine K.RW.l rfl (K.OW.st [.int .u64 0, .int .u64 0, .int .u64 0, .int .u64 0, .int .u64 0, .int .u64 0, .int .u64 0, .int .u64 0] [.int .u64 0, .int .u64 0, .int .u64 0, .int .u64 0, .int .u64 0, .int .u64 0, .int .u64 0, .int .u64 0] rfl rfl rfl (by kernel_rfl) b_207 rfl (K.one_cells (by rfl)) rfl rfl ?_) 
      intro w_214 e_215 hs_216 b_217
      have c_218 := c_208.own e_215 (by omega)
      have z_219 := c_218.size
      have zz_220 := e_215.size
      have f_221 := f_211.chg e_215 (by unfold K.Is; omega)
      have f_222 := f_212.chg e_215 (fun k hk hy => f_212.ne_ty b_207 (by decide) k hk hy)
      have f_223 := f_213.chg e_215 (by unfold K.Is; omega)
      refine K.RW.q rfl rfl (K.QR.k (v := .int .i64 3) (by kernel_rfl)) ?_
      refine K.RW.nil ?_
      refine K.thn_normal ?_
      refine K.KW.seq ?_
      refine K.KW.seq ?_
      -- region 6 law.go:48
      have o_224 := K.Own.of_blkL (base := w0.heap.size) (n := 8) (c := cU64) (L := ([l.getD 0 0, l.getD 1 0, l.getD 2 0, l.getD 3 0, l.getD 4 0, l.getD 5 0, l.getD 6 0, l.getD 7 0] : List Int)) f_221 (by omega) rfl (by unfold maxLen; omega) (fun _ => rfl) rfl
      refine K.KW.drawn (fun w => K.Chg K.No w0 w ∧ (w.cell? ⟨r_39, 0, none⟩ = some (.int .u64 ((wordsT (bytesL (ln8 l)) 8).getD 0 0))) ∧ (w.cell? ⟨r_39, 1, none⟩ = some (.int .u64 ((wordsT (bytesL (ln8 l)) 8).getD 1 0))) ∧ (w.cell? ⟨r_39, 2, none⟩ = some (.int .u64 ((wordsT (bytesL (ln8 l)) 8).getD 2 0))) ∧ (w.cell? ⟨r_39, 3, none⟩ = some (.int .u64 ((wordsT (bytesL (ln8 l)) 8).getD 3 0))) ∧ (w.cell? ⟨r_39, 4, none⟩ = some (.int .u64 ((wordsT (bytesL (ln8 l)) 8).getD 4 0))) ∧ (w.cell? ⟨r_39, 5, none⟩ = some (.int .u64 ((wordsT (bytesL (ln8 l)) 8).getD 5 0))) ∧ (w.cell? ⟨r_39, 6, none⟩ = some (.int .u64 ((wordsT (bytesL (ln8 l)) 8).getD 6 0))) ∧ (w.cell? ⟨r_39, 7, none⟩ = some (.int .u64 ((wordsT (bytesL (ln8 l)) 8).getD 7 0))) ∧ K.Own w w0.heap.size 5 1 r_17 64 cc_19 (((bytesL (ln8 l))).flatMap cU8)) (by kernel_rfl) ?_
      intro w_225 e_226 hs_227
      have c_229 := c_218.no e_226
      have z_230 := c_229.size
      have zz_231 := e_226.size
      have f_232 := f_222.no e_226
      have f_233 := f_223.no e_226
      have f_234 := b_217.no e_226
      have f_235 := o_224.no e_226
      have hS_228 : (fun w => K.Chg K.No w0 w ∧ (w.cell? ⟨r_39, 0, none⟩ = some (.int .u64 ((wordsT (bytesL (ln8 l)) 8).getD 0 0))) ∧ (w.cell? ⟨r_39, 1, none⟩ = some (.int .u64 ((wordsT (bytesL (ln8 l)) 8).getD 1 0))) ∧ (w.cell? ⟨r_39, 2, none⟩ = some (.int .u64 ((wordsT (bytesL (ln8 l)) 8).getD 2 0))) ∧ (w.cell? ⟨r_39, 3, none⟩ = some (.int .u64 ((wordsT (bytesL (ln8 l)) 8).getD 3 0))) ∧ (w.cell? ⟨r_39, 4, none⟩ = some (.int .u64 ((wordsT (bytesL (ln8 l)) 8).getD 4 0))) ∧ (w.cell? ⟨r_39, 5, none⟩ = some (.int .u64 ((wordsT (bytesL (ln8 l)) 8).getD 5 0))) ∧ (w.cell? ⟨r_39, 6, none⟩ = some (.int .u64 ((wordsT (bytesL (ln8 l)) 8).getD 6 0))) ∧ (w.cell? ⟨r_39, 7, none⟩ = some (.int .u64 ((wordsT (bytesL (ln8 l)) 8).getD 7 0))) ∧ K.Own w w0.heap.size 5 1 r_17 64 cc_19 (((bytesL (ln8 l))).flatMap cU8)) w_225 := ⟨c_229, ((f_233).cell rfl), ((f_233).cell rfl), ((f_233).cell rfl), ((f_233).cell rfl), ((f_233).cell rfl), ((f_233).cell rfl), ((f_233).cell rfl), ((f_233).cell rfl), f_232⟩
      refine K.DW.q 0 (by kernel_rfl) rfl rfl (by kernel_rfl) rfl (fun w hS => K.QR.k (v := .slice r_17 64 cc_19) (by kernel_rfl)) hS_228 ?_
      refine K.DW.q 1 (by kernel_rfl) rfl rfl (by kernel_rfl) rfl (fun w hS => K.QR.b2s (xs := (bytesL (ln8 l))) rfl rfl Try.underlying25 Try.underlying5 Try.underlying9 rfl (K.Own.rowE 0 (hS.2.2.2.2.2.2.2.2.2) rfl (fun _ => rfl))) hS_228 ?_
      refine K.DW.l 2 rfl (by kernel_rfl) rfl (K.OW.q rfl (K.QR.slArr (size := 1) rfl rfl Try.underlying24 (by kernel_rfl)) ?_)
      refine ⟨.inl hS_228, ?_⟩
      refine K.DW.l 3 rfl (by kernel_rfl) rfl (K.OW.call rfl [.slice (some ⟨r_2, 0, none⟩) 8 8] rfl rfl (by kernel_rfl) (rbytes_ok _ _ ([l.getD 0 0, l.getD 1 0, l.getD 2 0, l.getD 3 0, l.getD 4 0, l.getD 5 0, l.getD 6 0, l.getD 7 0] : List Int) _ (by first | omega | (simp; omega) | (simp; done)) (by first | assumption | exact ln8_words (by assumption) | exact flat_words (by assumption) | exact words_words (by assumption) _ | exact ln8_words (words_words (by assumption) _) | (apply allWords_lit; decide)) (K.Own.rowE 0 f_235 rfl (fun _ => rfl))) ?_)
      rintro _ w_242 ⟨r_236, m_237, cc_238, rfl, c_239, o_240, rfl⟩
      have c_243 := c_229.no c_239
      have z_244 := c_243.size
      have zz_245 := c_239.size
      have f_246 := f_232.no c_239
      have f_247 := f_233.no c_239
      have f_248 := f_234.no c_239
      have f_249 := f_235.no c_239
      have o_250 := K.Own.mono (base' := w0.heap.size) o_240 (by omega)
      have hS_251 : (fun w => K.Chg K.No w0 w ∧ (w.cell? ⟨r_39, 0, none⟩ = some (.int .u64 ((wordsT (bytesL (ln8 l)) 8).getD 0 0))) ∧ (w.cell? ⟨r_39, 1, none⟩ = some (.int .u64 ((wordsT (bytesL (ln8 l)) 8).getD 1 0))) ∧ (w.cell? ⟨r_39, 2, none⟩ = some (.int .u64 ((wordsT (bytesL (ln8 l)) 8).getD 2 0))) ∧ (w.cell? ⟨r_39, 3, none⟩ = some (.int .u64 ((wordsT (bytesL (ln8 l)) 8).getD 3 0))) ∧ (w.cell? ⟨r_39, 4, none⟩ = some (.int .u64 ((wordsT (bytesL (ln8 l)) 8).getD 4 0))) ∧ (w.cell? ⟨r_39, 5, none⟩ = some (.int .u64 ((wordsT (bytesL (ln8 l)) 8).getD 5 0))) ∧ (w.cell? ⟨r_39, 6, none⟩ = some (.int .u64 ((wordsT (bytesL (ln8 l)) 8).getD 6 0))) ∧ (w.cell? ⟨r_39, 7, none⟩ = some (.int .u64 ((wordsT (bytesL (ln8 l)) 8).getD 7 0))) ∧ K.Own w w0.heap.size 5 1 r_17 64 cc_19 (((bytesL (ln8 l))).flatMap cU8)) w_242 := ⟨c_243, ((f_247).cell rfl), ((f_247).cell rfl), ((f_247).cell rfl), ((f_247).cell rfl), ((f_247).cell rfl), ((f_247).cell rfl), ((f_247).cell rfl), ((f_247).cell rfl), f_246⟩
      refine ⟨.inl hS_251, ?_⟩
      refine K.DW.l 4 rfl (by kernel_rfl) rfl (K.OW.q rfl (K.QR.b2s (xs := (bytesL ([l.getD 0 0, l.getD 1 0, l.getD 2 0, l.getD 3 0, l.getD 4 0, l.getD 5 0, l.getD 6 0, l.getD 7 0] : List Int))) rfl rfl Try.underlying25 Try.underlying5 Try.underlying9 rfl (K.Own.rowE 0 o_250 rfl (fun _ => rfl))) ?_)
      refine ⟨.inl hS_251, ?_⟩
      refine K.DW.l 5 rfl (by kernel_rfl) rfl (K.OW.q rfl (K.QR.turn (K.QR.strNe rfl rfl rfl) (show _ = Value.bool false from congrArg Value.bool (by (rw [show ((bytesL (ln8 l)) = (bytesL ([l.getD 0 0, l.getD 1 0, l.getD 2 0, l.getD 3 0, l.getD 4 0, l.getD 5 0, l.getD 6 0, l.getD 7 0] : List Int))) from (rfl)]) <;> simp))) ?_)
      refine ⟨.inl hS_251, ?_⟩
      refine K.DW.l 6 rfl (by kernel_rfl) rfl (K.OW.q rfl (K.QR.k (v := .bool false) (by kernel_rfl)) ?_)
      refine ⟨.inl hS_251, ?_⟩
      refine K.DW.l 7 rfl (by kernel_rfl) (by kernel_rfl) (K.OW.q rfl (K.QR.k (v := .int .i64 0) (by kernel_rfl)) ?_)
      refine ⟨.inl hS_251, ?_⟩
      refine K.DW.l 8 rfl (by kernel_rfl) (by kernel_rfl) (K.OW.q rfl (K.QR.k (v := .bool false) (by kernel_rfl)) ?_)
      refine ⟨.inl hS_251, ?_⟩
      refine K.DW.l 9 rfl (by kernel_rfl) rfl (K.OW.q rfl (K.QR.k (v := .bool false) (by kernel_rfl)) ?_)
      refine ⟨.inl hS_251, ?_⟩
      refine K.DW.l 10 rfl (by kernel_rfl) rfl (K.OW.q rfl (K.QR.k (v := .bool false) (by kernel_rfl)) ?_)
      refine ⟨.inl hS_251, ?_⟩
      refine K.DW.q 11 (by kernel_rfl) rfl rfl (by kernel_rfl) (by kernel_rfl) (fun w hS => K.QR.ldN [.int .u64 ((wordsT (bytesL (ln8 l)) 8).getD 0 0), .int .u64 ((wordsT (bytesL (ln8 l)) 8).getD 1 0), .int .u64 ((wordsT (bytesL (ln8 l)) 8).getD 2 0), .int .u64 ((wordsT (bytesL (ln8 l)) 8).getD 3 0), .int .u64 ((wordsT (bytesL (ln8 l)) 8).getD 4 0), .int .u64 ((wordsT (bytesL (ln8 l)) 8).getD 5 0), .int .u64 ((wordsT (bytesL (ln8 l)) 8).getD 6 0), .int .u64 ((wordsT (bytesL (ln8 l)) 8).getD 7 0)] rfl rfl (by kernel_rfl) (by kernel_rfl) (K.cells (K.cl (hS.2.1) (K.cl (hS.2.2.1) (K.cl (hS.2.2.2.1) (K.cl (hS.2.2.2.2.1) (K.cl (hS.2.2.2.2.2.1) (K.cl (hS.2.2.2.2.2.2.1) (K.cl (hS.2.2.2.2.2.2.2.1) (K.cl (hS.2.2.2.2.2.2.2.2.1) K.cl0)))))))))) hS_251 ?_
      refine K.DW.l 12 rfl (by kernel_rfl) (by kernel_rfl) (K.OW.q rfl (K.QR.ldN [.int .u64 (([l.getD 0 0, l.getD 1 0, l.getD 2 0, l.getD 3 0, l.getD 4 0, l.getD 5 0, l.getD 6 0, l.getD 7 0] : List Int).getD 0 0), .int .u64 (([l.getD 0 0, l.getD 1 0, l.getD 2 0, l.getD 3 0, l.getD 4 0, l.getD 5 0, l.getD 6 0, l.getD 7 0] : List Int).getD 1 0), .int .u64 (([l.getD 0 0, l.getD 1 0, l.getD 2 0, l.getD 3 0, l.getD 4 0, l.getD 5 0, l.getD 6 0, l.getD 7 0] : List Int).getD 2 0), .int .u64 (([l.getD 0 0, l.getD 1 0, l.getD 2 0, l.getD 3 0, l.getD 4 0, l.getD 5 0, l.getD 6 0, l.getD 7 0] : List Int).getD 3 0), .int .u64 (([l.getD 0 0, l.getD 1 0, l.getD 2 0, l.getD 3 0, l.getD 4 0, l.getD 5 0, l.getD 6 0, l.getD 7 0] : List Int).getD 4 0), .int .u64 (([l.getD 0 0, l.getD 1 0, l.getD 2 0, l.getD 3 0, l.getD 4 0, l.getD 5 0, l.getD 6 0, l.getD 7 0] : List Int).getD 5 0), .int .u64 (([l.getD 0 0, l.getD 1 0, l.getD 2 0, l.getD 3 0, l.getD 4 0, l.getD 5 0, l.getD 6 0, l.getD 7 0] : List Int).getD 6 0), .int .u64 (([l.getD 0 0, l.getD 1 0, l.getD 2 0, l.getD 3 0, l.getD 4 0, l.getD 5 0, l.getD 6 0, l.getD 7 0] : List Int).getD 7 0)] rfl rfl (by kernel_rfl) (by kernel_rfl) (K.cells (K.cl ((K.Own.rowE 0 f_249 rfl (fun _ => rfl)).ld 0 (by omega) 0 _ rfl) (K.cl ((K.Own.rowE 0 f_249 rfl (fun _ => rfl)).ld 1 (by omega) 0 _ rfl) (K.cl ((K.Own.rowE 0 f_249 rfl (fun _ => rfl)).ld 2 (by omega) 0 _ rfl) (K.cl ((K.Own.rowE 0 f_249 rfl (fun _ => rfl)).ld 3 (by omega) 0 _ rfl) (K.cl ((K.Own.rowE 0 f_249 rfl (fun _ => rfl)).ld 4 (by omega) 0 _ rfl) (K.cl ((K.Own.rowE 0 f_249 rfl (fun _ => rfl)).ld 5 (by omega) 0 _ rfl) (K.cl ((K.Own.rowE 0 f_249 rfl (fun _ => rfl)).ld 6 (by omega) 0 _ rfl) (K.cl ((K.Own.rowE 0 f_249 rfl (fun _ => rfl)).ld 7 (by omega) 0 _ rfl) K.cl0)))))))))) ?_)
      refine ⟨.inl hS_251, ?_⟩
      refine K.DW.l 13 rfl (by kernel_rfl) (by kernel_rfl) (K.OW.q rfl (K.QR.neS (by kernel_rfl) rfl rfl rfl (eqLine_t (by exact line_eq hw))) ?_)
      refine ⟨.inl hS_251, ?_⟩
      refine K.DW.l 14 rfl (by kernel_rfl) rfl (K.OW.q rfl (K.QR.k (v := .bool false) (by kernel_rfl)) ?_)
      refine ⟨.inl hS_251, ?_⟩
      refine K.DW.done (by kernel_rfl) ?_
      refine K.thn_normal ?_
      refine K.KW.ifF rfl ?_
      refine K.KW.skip ?_
      refine K.thn_normal ?_
      refine K.KW.seq ?_
      refine K.KW.seq ?_
      -- region 8 law.go:51
      refine K.KW.region ?_
      refine K.RW.q rfl rfl (K.QR.k (v := .slice a xs.length cap) (by kernel_rfl)) ?_
      refine K.RW.q rfl rfl (K.QR.len (P := Try.prog) rfl rfl Try.underlying25) ?_
      refine K.RW.q rfl rfl (K.QR.nice (v := .bool ((((xs.length : Nat) : Int) : Int) != (64 : Int))) (by kernel_rfl) (congrArg Value.bool (bne_iff_ne.2 hn_62))) ?_
      refine K.RW.nil ?_
      refine K.thn_normal ?_
      refine K.KW.ifT rfl ?_
      refine K.KW.seq ?_
      -- region 9 law.go:52
      refine K.KW.region ?_
      refine K.RW.l rfl (K.OW.call rfl [] rfl rfl (by kernel_rfl) (awake03_ok _) ?_) 
      rintro _ w_253 ⟨rfl, c_252⟩
      have c_254 := c_243.no c_252
      have z_255 := c_254.size
      have zz_256 := c_252.size
      have f_257 := f_246.no c_252
      have f_258 := f_247.no c_252
      have f_259 := f_248.no c_252
      have f_260 := f_249.no c_252
      have f_261 := o_250.no c_252
      refine K.RW.q rfl rfl (K.QR.k (v := .bool true) (by kernel_rfl)) ?_
      refine K.RW.q rfl (by kernel_rfl) (K.QR.k (v := .int .i64 3) (by kernel_rfl)) ?_
      refine K.RW.q rfl (by kernel_rfl) (K.QR.k (v := .bool true) (by kernel_rfl)) ?_
      refine K.RW.q rfl rfl (K.QR.k (v := .bool true) (by kernel_rfl)) ?_
      refine K.RW.q rfl rfl (K.QR.k (v := .bool true) (by kernel_rfl)) ?_
      refine K.RW.q rfl (by kernel_rfl) (K.QR.ldN [.int .u64 0, .int .u64 0, .int .u64 0, .int .u64 0, .int .u64 0, .int .u64 0, .int .u64 0, .int .u64 0] rfl rfl (by kernel_rfl) (by kernel_rfl) (K.cells (K.cl (f_259.cell rfl) (K.cl (f_259.cell rfl) (K.cl (f_259.cell rfl) (K.cl (f_259.cell rfl) (K.cl (f_259.cell rfl) (K.cl (f_259.cell rfl) (K.cl (f_259.cell rfl) (K.cl (f_259.cell rfl) K.cl0)))))))))) ?_
      refine K.RW.q rfl (by kernel_rfl) (K.QR.bd [] [.int .u64 0, .int .u64 0, .int .u64 0, .int .u64 0, .int .u64 0, .int .u64 0, .int .u64 0, .int .u64 0] rfl rfl (by kernel_rfl)) ?_
      refine K.RW.q rfl (by kernel_rfl) (K.QR.eqS (by kernel_rfl) rfl rfl rfl (eqLine_t (⟨rfl, rfl, rfl, rfl, rfl, rfl, rfl, rfl⟩))) ?_
      refine K.RW.q rfl rfl (K.QR.k (v := .bool true) (by kernel_rfl)) ?_
      refine K.RW.q rfl rfl (K.QR.k (v := .bool true) (by kernel_rfl)) ?_
      refine K.RW.nil ?_
      refine K.thn_normal ?_
      refine K.KW.ret ?_
      refine K.thn_ret ?_
      refine ⟨.inr rfl, rfl, (.bool true), K.res1 rfl rfl, ?_⟩
      exact ⟨rfl, c_254⟩

theorem mayR0_8 {n : Nat} (h : n ≤ 262144) : mayR (8 * n) 8 = 0 := by unfold mayR; rw [if_pos (by omega), if_neg (by omega)]
theorem mayR0_64 {n : Nat} (h : n ≤ 262144) : mayR (64 * n) 64 = 0 := by unfold mayR; rw [if_pos (by omega), if_neg (by omega)]
theorem mayR0_mod {n s : Nat} (h : mayR n s = 0) : n % s = 0 := by
  unfold mayR at h
  by_cases h2 : n % s = 0
  · exact h2
  · rw [if_neg h2] at h; cases h
theorem mayFlat {ls : List (List Int)} (h : ls.length ≤ 262144) : mayR (flatL ls).length 8 = 0 := by rw [flatL_len]; exact mayR0_8 h
theorem allB_len (ls : List (List Int)) : (allB ls).length = 64 * ls.length := by unfold allB; rw [bytesL_len, flatL_len]; omega
theorem mayAll {ls : List (List Int)} (h : ls.length ≤ 262144) : mayR (allB ls).length 64 = 0 := by rw [allB_len]; exact mayR0_64 h
theorem cutIf_len (ws : List Int) : (if mayR ws.length 8 = 0 then cutT ws (ws.length / 8) else []).length ≤ ws.length / 8 := by
  split
  · rw [cutT_len]; exact Nat.le_refl _
  · simp
theorem imgIf_len (ws : List Int) : (if mayR ws.length 64 = 0 then imgT ws (ws.length / 64) else []).length ≤ ws.length / 64 := by
  split
  · rw [imgT_len]; exact Nat.le_refl _
  · simp
theorem cutIf_flen (ws : List Int) : (flatL (if mayR ws.length 8 = 0 then cutT ws (ws.length / 8) else [])).length ≤ ws.length := by
  rw [flatL_len]; have := cutIf_len ws; omega
theorem imgIf_flen (ws : List Int) : (flatL (if mayR ws.length 64 = 0 then imgT ws (ws.length / 64) else [])).length ≤ ws.length := by
  rw [flatL_len]; have := imgIf_len ws; omega
theorem cutIf_back {ws : List Int} (h : mayR ws.length 8 = 0) : flatL (if mayR ws.length 8 = 0 then cutT ws (ws.length / 8) else []) = ws := by
  have := mayR0_mod h
  rw [if_pos h, flat_cut ws (by omega), List.take_of_length_le (by omega)]
theorem imgIf_words {bs : List Int} (h : mayR bs.length 64 = 0) : flatL (if mayR bs.length 64 = 0 then imgT bs (bs.length / 64) else []) = wordsL bs := by
  have := mayR0_mod h
  rw [if_pos h, flat_img]; unfold wordsL; rw [show 8 * (bs.length / 64) = bs.length / 8 by omega]
theorem imgIf_bytes {bs : List Int} (hb : allBytes bs) (h : mayR bs.length 64 = 0) : allB (if mayR bs.length 64 = 0 then imgT bs (bs.length / 64) else []) = bs := by
  have := mayR0_mod h
  unfold allB
  rw [imgIf_words h]; unfold wordsL; rw [bytes_back hb (by omega), List.take_of_length_le (by omega)]
theorem imgIf_back {ls : List (List Int)} (hw : allLines ls) (h : ls.length ≤ 262144) : flatL (if mayR (allB ls).length 64 = 0 then imgT (allB ls) ((allB ls).length / 64) else []) = flatL ls := by
  rw [imgIf_words (mayAll h)]
  unfold wordsL
  rw [show (allB ls).length / 8 = (flatL ls).length by rw [allB_len, flatL_len]; omega]
  exact words_back (flat_words hw)
theorem imgIf_lines {bs : List Int} (hb : allBytes bs) : allLines (if mayR bs.length 64 = 0 then imgT bs (bs.length / 64) else []) := by
  split
  · exact img_lines hb _
  · intro l h; simp at h
theorem allB_bytes (ls : List (List Int)) : allBytes (allB ls) := bytesL_bytes _

set_option maxHeartbeats 1000000 in
set_option maxRecDepth 100000 in
theorem linW_ok (a b : Option Addr) (cap cap' : Nat) (ls : List (List Int)) (xs : List Int) (w0 : World) (hm0 : ls.length ≤ 9223372036854775807) (hm1 : xs.length ≤ 9223372036854775807) (hc0 : ls.length ≤ cap) (hc1 : xs.length ≤ cap') (hx : RLn w0 a ls) (hy : RU64 w0 b xs) :
    K.KC Try.prog 4 #[.slice a ls.length cap, .slice b xs.length cap'] w0 (fun v w' => v = .bool true ∧ K.Chg K.No w0 w') := by
  have hfl := flatL_len ls
  have hq1 := cutIf_len (flatL ls)
  have hq2 := cutIf_len xs
  have hq3 := cutIf_flen (flatL ls)
  have hq4 := cutIf_flen xs
  refine K.KC.mk (n := 74) Try.func4 rfl rfl [.slice a ls.length cap, .slice b xs.length cap'] rfl rfl ?_
  refine K.KW.seq ?_
  -- region 0 law.go:75
  refine K.KW.region ?_
  refine K.RW.q rfl rfl (K.QR.k (v := .bool false) (by kernel_rfl)) ?_
  refine K.RW.nil ?_
  refine K.thn_normal ?_
  refine K.KW.seq ?_
  refine K.KW.seq ?_
  -- region 1 law.go:76
  refine K.KW.region ?_
  refine K.RW.q rfl rfl (K.QR.k (v := .slice a ls.length cap) (by kernel_rfl)) ?_
  refine K.RW.q rfl rfl (K.QR.len (P := Try.prog) rfl rfl Try.underlying36) ?_
  by_cases h_1 : (((ls.length : Nat) : Int) : Int) > (40 : Int)
  ·  -- yes
    refine K.RW.q rfl rfl (K.QR.nice (v := .bool (decide ((((ls.length : Nat) : Int) : Int) > (40 : Int)))) (by kernel_rfl) (congrArg Value.bool (decide_eq_true h_1))) ?_
    refine K.RW.q rfl rfl (K.QR.k (v := .bool true) (by kernel_rfl)) ?_
    refine K.RW.skip rfl (by kernel_rfl) ?_
    refine K.RW.skip rfl (by kernel_rfl) ?_
    refine K.RW.skip rfl (by kernel_rfl) ?_
    refine K.RW.q rfl rfl (K.QR.k (v := .bool true) (by kernel_rfl)) ?_
    refine K.RW.nil ?_
    refine K.thn_normal ?_
    refine K.KW.ifT rfl ?_
    refine K.KW.seq ?_
    -- region 2 law.go:77
    refine K.KW.region ?_
    refine K.RW.l rfl (K.OW.call rfl [] rfl rfl (by kernel_rfl) (awake03_ok _) ?_) 
    rintro _ w_3 ⟨rfl, c_2⟩
    have c_4 := c_2
    have z_5 := c_4.size
    have zz_6 := c_2.size
    refine K.RW.q rfl rfl (K.QR.k (v := .bool true) (by kernel_rfl)) ?_
    refine K.RW.nil ?_
    refine K.thn_normal ?_
    refine K.KW.ret ?_
    refine K.thn_ret ?_
    refine ⟨.inr rfl, rfl, (.bool true), K.res1 rfl rfl, ?_⟩
    exact ⟨rfl, c_4⟩
  ·  -- no
    refine K.RW.q rfl rfl (K.QR.nice (v := .bool (decide ((((ls.length : Nat) : Int) : Int) > (40 : Int)))) (by kernel_rfl) (congrArg Value.bool (decide_eq_false h_1))) ?_
    refine K.RW.q rfl rfl (K.QR.k (v := .bool false) (by kernel_rfl)) ?_
    refine K.RW.q rfl (by kernel_rfl) (K.QR.k (v := .slice b xs.length cap') (by kernel_rfl)) ?_
    refine K.RW.q rfl (by kernel_rfl) (K.QR.len (P := Try.prog) rfl rfl Try.underlying32) ?_
    by_cases h_7 : (((xs.length : Nat) : Int) : Int) > (300 : Int)
    ·  -- yes
      refine K.RW.q rfl (by kernel_rfl) (K.QR.nice (v := .bool (decide ((((xs.length : Nat) : Int) : Int) > (300 : Int)))) (by kernel_rfl) (congrArg Value.bool (decide_eq_true h_7))) ?_
      refine K.RW.q rfl rfl (K.QR.k (v := .bool true) (by kernel_rfl)) ?_
      refine K.RW.nil ?_
      refine K.thn_normal ?_
      refine K.KW.ifT rfl ?_
      refine K.KW.seq ?_
      -- region 2 law.go:77
      refine K.KW.region ?_
      refine K.RW.l rfl (K.OW.call rfl [] rfl rfl (by kernel_rfl) (awake03_ok _) ?_) 
      rintro _ w_9 ⟨rfl, c_8⟩
      have c_10 := c_8
      have z_11 := c_10.size
      have zz_12 := c_8.size
      refine K.RW.q rfl rfl (K.QR.k (v := .bool true) (by kernel_rfl)) ?_
      refine K.RW.nil ?_
      refine K.thn_normal ?_
      refine K.KW.ret ?_
      refine K.thn_ret ?_
      refine ⟨.inr rfl, rfl, (.bool true), K.res1 rfl rfl, ?_⟩
      exact ⟨rfl, c_10⟩
    ·  -- no
      refine K.RW.q rfl (by kernel_rfl) (K.QR.nice (v := .bool (decide ((((xs.length : Nat) : Int) : Int) > (300 : Int)))) (by kernel_rfl) (congrArg Value.bool (decide_eq_false h_7))) ?_
      refine K.RW.q rfl rfl (K.QR.k (v := .bool false) (by kernel_rfl)) ?_
      refine K.RW.nil ?_
      refine K.thn_normal ?_
      refine K.KW.ifF rfl ?_
      refine K.KW.skip ?_
      refine K.thn_normal ?_
      refine K.KW.seq ?_
      -- region 3 law.go:79
      refine K.KW.region ?_
      refine K.RW.q rfl rfl (K.QR.k (v := .slice a ls.length cap) (by kernel_rfl)) ?_
      refine K.RW.l rfl (K.OW.call rfl [.slice a ls.length cap] rfl rfl (by kernel_rfl) (words_ok _ _ ls _ (by first | omega | (simp; omega) | (simp; done)) hx) ?_) 
      rintro _ w_19 ⟨r_13, m_14, cc_15, rfl, c_16, o_17, rfl⟩
      have c_20 := c_16
      have z_21 := c_20.size
      have zz_22 := c_16.size
      have o_23 := K.Own.mono (base' := w0.heap.size) o_17 (by omega)
      refine K.RW.q rfl rfl (K.QR.k (v := .slice r_13 ((flatL ls).length) cc_15) (by kernel_rfl)) ?_
      refine K.RW.nil ?_
      refine K.thn_normal ?_
      refine K.KW.seq ?_
      -- region 4 law.go:80
      refine K.KW.region ?_
      refine K.RW.q rfl rfl (K.QR.k (v := .slice r_13 ((flatL ls).length) cc_15) (by kernel_rfl)) ?_
      refine K.RW.l rfl (K.OW.call rfl [.slice r_13 ((flatL ls).length) cc_15] rfl rfl (by kernel_rfl) (cut_ok _ _ (flatL ls) _ (by first | omega | (simp; omega) | (simp; done)) (by have h0 := own_le_cap o_23; omega) (K.Own.rowE 0 o_23 rfl (fun _ => rfl))) ?_) 
      rintro _ w_30 ⟨r_24, m_25, cc_26, rfl, c_27, o_28, rfl⟩
      have c_31 := c_20.no c_27
      have z_32 := c_31.size
      have zz_33 := c_27.size
      have f_34 := o_23.no c_27
      have o_35 := K.Own.mono (base' := w0.heap.size) o_28 (by omega)
      refine K.RW.q rfl rfl (K.QR.k (v := .tuple #[.slice r_24 ((if mayR (flatL ls).length 8 = 0 then cutT (flatL ls) ((flatL ls).length / 8) else []).length) cc_26, .int .i64 (mayR (flatL ls).length 8)]) (by kernel_rfl)) ?_
      refine K.RW.q rfl rfl (K.QR.k (v := .slice r_24 ((if mayR (flatL ls).length 8 = 0 then cutT (flatL ls) ((flatL ls).length / 8) else []).length) cc_26) (by kernel_rfl)) ?_
      refine K.RW.q rfl rfl (K.QR.k (v := .int .i64 (mayR (flatL ls).length 8)) (by kernel_rfl)) ?_
      refine K.RW.q rfl rfl (K.QR.k (v := .slice r_24 ((if mayR (flatL ls).length 8 = 0 then cutT (flatL ls) ((flatL ls).length / 8) else []).length) cc_26) (by kernel_rfl)) ?_
      refine K.RW.q rfl rfl (K.QR.k (v := .int .i64 (mayR (flatL ls).length 8)) (by kernel_rfl)) ?_
      refine K.RW.nil ?_
      refine K.thn_normal ?_
      refine K.KW.seq ?_
      -- region 5 law.go:81
      refine K.KW.region ?_
      refine K.RW.q rfl rfl (K.QR.k (v := .slice b xs.length cap') (by kernel_rfl)) ?_
      refine K.RW.l rfl (K.OW.call rfl [.slice b xs.length cap'] rfl rfl (by kernel_rfl) (cut_ok _ _ xs _ (by first | omega | (simp; omega) | (simp; done)) (by first | omega | assumption) (hy.no c_31)) ?_) 
      rintro _ w_42 ⟨r_36, m_37, cc_38, rfl, c_39, o_40, rfl⟩
      have c_43 := c_31.no c_39
      have z_44 := c_43.size
      have zz_45 := c_39.size
      have f_46 := f_34.no c_39
      have f_47 := o_35.no c_39
      have o_48 := K.Own.mono (base' := w0.heap.size) o_40 (by omega)
      refine K.RW.q rfl rfl (K.QR.k (v := .tuple #[.slice r_36 ((if mayR xs.length 8 = 0 then cutT xs (xs.length / 8) else []).length) cc_38, .int .i64 (mayR xs.length 8)]) (by kernel_rfl)) ?_
      refine K.RW.q rfl rfl (K.QR.k (v := .slice r_36 ((if mayR xs.length 8 = 0 then cutT xs (xs.length / 8) else []).length) cc_38) (by kernel_rfl)) ?_
      refine K.RW.q rfl rfl (K.QR.k (v := .int .i64 (mayR xs.length 8)) (by kernel_rfl)) ?_
      refine K.RW.q rfl rfl (K.QR.k (v := .slice r_36 ((if mayR xs.length 8 = 0 then cutT xs (xs.length / 8) else []).length) cc_38) (by kernel_rfl)) ?_
      refine K.RW.q rfl rfl (K.QR.k (v := .int .i64 (mayR xs.length 8)) (by kernel_rfl)) ?_
      refine K.RW.nil ?_
      refine K.thn_normal ?_
      refine K.KW.seq ?_
      refine K.KW.seq ?_
      -- region 6 law.go:82
      refine K.KW.region ?_
      refine K.RW.q rfl rfl (K.QR.k (v := .slice r_13 ((flatL ls).length) cc_15) (by kernel_rfl)) ?_
      refine K.RW.q rfl rfl (K.QR.k (v := .slice a ls.length cap) (by kernel_rfl)) ?_
      refine K.RW.l rfl (K.OW.call rfl [.slice a ls.length cap] rfl rfl (by kernel_rfl) (flat_ok _ _ ls _ (by first | omega | (simp; omega) | (simp; done)) (hx.no c_43)) ?_) 
      rintro _ w_55 ⟨r_49, m_50, cc_51, rfl, c_52, o_53, rfl⟩
      have c_56 := c_43.no c_52
      have z_57 := c_56.size
      have zz_58 := c_52.size
      have f_59 := f_46.no c_52
      have f_60 := f_47.no c_52
      have f_61 := o_48.no c_52
      have o_62 := K.Own.mono (base' := w0.heap.size) o_53 (by omega)
      refine K.RW.l rfl (K.OW.call rfl [.slice r_13 ((flatL ls).length) cc_15, .slice r_49 ((flatL ls).length) cc_51] rfl rfl (by kernel_rfl) (same_ok _ _ _ _ (flatL ls) (flatL ls) _ (by first | omega | (simp; omega) | simp) (K.Own.rowE 0 f_59 rfl (fun _ => rfl)) (K.Own.rowE 0 o_62 rfl (fun _ => rfl))) ?_) 
      rintro v_66 w_64 ⟨hv_65, c_63⟩
      have c_67 := c_56.no c_63
      have z_68 := c_67.size
      have zz_69 := c_63.size
      have f_70 := f_59.no c_63
      have f_71 := f_60.no c_63
      have f_72 := f_61.no c_63
      have f_73 := o_62.no c_63
      have hb_74 : sameB (flatL ls) (flatL ls) = true := (decide_eq_true rfl)
      rw [hb_74] at hv_65; subst hv_65
      refine K.RW.q rfl rfl (K.QR.k (v := .bool false) (by kernel_rfl)) ?_
      refine K.RW.q rfl rfl (K.QR.k (v := .bool false) (by kernel_rfl)) ?_
      refine K.RW.q rfl (by kernel_rfl) (K.QR.k (v := .int .i64 (mayR (flatL ls).length 8)) (by kernel_rfl)) ?_
      refine K.RW.q rfl (by kernel_rfl) (K.QR.nice (v := .bool (((mayR (flatL ls).length 8) : Int) != (0 : Int))) (by kernel_rfl) (congrArg Value.bool (bne_eq_false_iff_eq.2 (by exact mayFlat (by omega))))) ?_
      refine K.RW.q rfl rfl (K.QR.k (v := .bool false) (by kernel_rfl)) ?_
      refine K.RW.q rfl rfl (K.QR.k (v := .bool false) (by kernel_rfl)) ?_
      refine K.RW.q rfl (by kernel_rfl) (K.QR.k (v := .slice r_24 ((if mayR (flatL ls).length 8 = 0 then cutT (flatL ls) ((flatL ls).length / 8) else []).length) cc_26) (by kernel_rfl)) ?_
      refine K.RW.l (by kernel_rfl) (K.OW.call rfl [.slice r_24 ((if mayR (flatL ls).length 8 = 0 then cutT (flatL ls) ((flatL ls).length / 8) else []).length) cc_26] rfl rfl (by kernel_rfl) (flat_ok _ _ (if mayR (flatL ls).length 8 = 0 then cutT (flatL ls) ((flatL ls).length / 8) else []) _ (by first | omega | (simp; omega) | (simp; done)) (K.Own.rowE ([] : List Int) f_71 rfl (fun _ => rfl))) ?_) 
      rintro _ w_81 ⟨r_75, m_76, cc_77, rfl, c_78, o_79, rfl⟩
      have c_82 := c_67.no c_78
      have z_83 := c_82.size
      have zz_84 := c_78.size
      have f_85 := f_70.no c_78
      have f_86 := f_71.no c_78
      have f_87 := f_72.no c_78
      have f_88 := f_73.no c_78
      have o_89 := K.Own.mono (base' := w0.heap.size) o_79 (by omega)
      refine K.RW.q rfl (by kernel_rfl) (K.QR.k (v := .slice r_13 ((flatL ls).length) cc_15) (by kernel_rfl)) ?_
      refine K.RW.l (by kernel_rfl) (K.OW.call rfl [.slice r_75 ((flatL (if mayR (flatL ls).length 8 = 0 then cutT (flatL ls) ((flatL ls).length / 8) else [])).length) cc_77, .slice r_13 ((flatL ls).length) cc_15] rfl rfl (by kernel_rfl) (same_ok _ _ _ _ (flatL (if mayR (flatL ls).length 8 = 0 then cutT (flatL ls) ((flatL ls).length / 8) else [])) (flatL ls) _ (by first | omega | (simp; omega) | simp) (K.Own.rowE 0 o_89 rfl (fun _ => rfl)) (K.Own.rowE 0 f_85 rfl (fun _ => rfl))) ?_) 
      rintro v_93 w_91 ⟨hv_92, c_90⟩
      have c_94 := c_82.no c_90
      have z_95 := c_94.size
      have zz_96 := c_90.size
      have f_97 := f_85.no c_90
      have f_98 := f_86.no c_90
      have f_99 := f_87.no c_90
      have f_100 := f_88.no c_90
      have f_101 := o_89.no c_90
      have hb_102 : sameB (flatL (if mayR (flatL ls).length 8 = 0 then cutT (flatL ls) ((flatL ls).length / 8) else [])) (flatL ls) = true := (decide_eq_true (by exact cutIf_back (mayFlat (by omega))))
      rw [hb_102] at hv_92; subst hv_92
      refine K.RW.q rfl (by kernel_rfl) (K.QR.k (v := .bool false) (by kernel_rfl)) ?_
      refine K.RW.q rfl rfl (K.QR.k (v := .bool false) (by kernel_rfl)) ?_
      refine K.RW.q rfl rfl (K.QR.k (v := .bool false) (by kernel_rfl)) ?_
      refine K.RW.q rfl (by kernel_rfl) (K.QR.k (v := .int .i64 (mayR xs.length 8)) (by kernel_rfl)) ?_
      refine K.RW.q rfl (by kernel_rfl) (K.QR.k (v := .slice b xs.length cap') (by kernel_rfl)) ?_
      refine K.RW.q rfl (by kernel_rfl) (K.QR.len (P := Try.prog) rfl rfl Try.underlying32) ?_
      refine K.RW.l (by kernel_rfl) (K.OW.call rfl [.int .i64 ((xs.length : Nat) : Int), .int .i64 8] rfl rfl (by kernel_rfl) (may8 xs.length _ (by first | omega | (simp; omega) | (simp; done))) ?_) 
      rintro _ w_104 ⟨rfl, c_103⟩
      have c_105 := c_94.no c_103
      have z_106 := c_105.size
      have zz_107 := c_103.size
      have f_108 := f_97.no c_103
      have f_109 := f_98.no c_103
      have f_110 := f_99.no c_103
      have f_111 := f_100.no c_103
      have f_112 := f_101.no c_103
      refine K.RW.q rfl (by kernel_rfl) (K.QR.nice (v := .bool (((mayR xs.length 8) : Int) != ((mayR xs.length 8) : Int))) (by kernel_rfl) (congrArg Value.bool (bne_eq_false_iff_eq.2 (rfl)))) ?_
      refine K.RW.q rfl rfl (K.QR.k (v := .bool false) (by kernel_rfl)) ?_
      refine K.RW.nil ?_
      refine K.thn_normal ?_
      refine K.KW.ifF rfl ?_
      refine K.KW.skip ?_
      refine K.thn_normal ?_
      refine K.KW.seq ?_
      -- region 8 law.go:85
      refine K.KW.region ?_
      refine K.RW.l rfl (K.OW.call rfl [] rfl rfl (by kernel_rfl) (awake03_ok _) ?_) 
      rintro _ w_114 ⟨rfl, c_113⟩
      have c_115 := c_105.no c_113
      have z_116 := c_115.size
      have zz_117 := c_113.size
      have f_118 := f_108.no c_113
      have f_119 := f_109.no c_113
      have f_120 := f_110.no c_113
      have f_121 := f_111.no c_113
      have f_122 := f_112.no c_113
      refine K.RW.q rfl rfl (K.QR.k (v := .bool true) (by kernel_rfl)) ?_
      refine K.RW.q rfl (by kernel_rfl) (K.QR.k (v := .int .i64 (mayR xs.length 8)) (by kernel_rfl)) ?_
      by_cases h_123 : ((mayR xs.length 8) : Int) = (0 : Int)
      ·  -- yes
        refine K.RW.q rfl (by kernel_rfl) (K.QR.nice (v := .bool (((mayR xs.length 8) : Int) == (0 : Int))) (by kernel_rfl) (congrArg Value.bool (beq_iff_eq.2 h_123))) ?_
        refine K.RW.q rfl (by kernel_rfl) (K.QR.k (v := .bool true) (by kernel_rfl)) ?_
        refine K.RW.q rfl (by kernel_rfl) (K.QR.k (v := .slice r_36 ((if mayR xs.length 8 = 0 then cutT xs (xs.length / 8) else []).length) cc_38) (by kernel_rfl)) ?_
        refine K.RW.l (by kernel_rfl) (K.OW.call rfl [.slice r_36 ((if mayR xs.length 8 = 0 then cutT xs (xs.length / 8) else []).length) cc_38] rfl rfl (by kernel_rfl) (flat_ok _ _ (if mayR xs.length 8 = 0 then cutT xs (xs.length / 8) else []) _ (by first | omega | (simp; omega) | (simp; done)) (K.Own.rowE ([] : List Int) f_120 rfl (fun _ => rfl))) ?_) 
        rintro _ w_130 ⟨r_124, m_125, cc_126, rfl, c_127, o_128, rfl⟩
        have c_131 := c_115.no c_127
        have z_132 := c_131.size
        have zz_133 := c_127.size
        have f_134 := f_118.no c_127
        have f_135 := f_119.no c_127
        have f_136 := f_120.no c_127
        have f_137 := f_121.no c_127
        have f_138 := f_122.no c_127
        have o_139 := K.Own.mono (base' := w0.heap.size) o_128 (by omega)
        refine K.RW.q rfl (by kernel_rfl) (K.QR.k (v := .slice b xs.length cap') (by kernel_rfl)) ?_
        refine K.RW.l (by kernel_rfl) (K.OW.call rfl [.slice r_124 ((flatL (if mayR xs.length 8 = 0 then cutT xs (xs.length / 8) else [])).length) cc_126, .slice b xs.length cap'] rfl rfl (by kernel_rfl) (same_ok _ _ _ _ (flatL (if mayR xs.length 8 = 0 then cutT xs (xs.length / 8) else [])) xs _ (by first | omega | (simp; omega) | simp) (K.Own.rowE 0 o_139 rfl (fun _ => rfl)) (hy.no c_131)) ?_) 
        rintro v_143 w_141 ⟨hv_142, c_140⟩
        have c_144 := c_131.no c_140
        have z_145 := c_144.size
        have zz_146 := c_140.size
        have f_147 := f_134.no c_140
        have f_148 := f_135.no c_140
        have f_149 := f_136.no c_140
        have f_150 := f_137.no c_140
        have f_151 := f_138.no c_140
        have f_152 := o_139.no c_140
        have hb_153 : sameB (flatL (if mayR xs.length 8 = 0 then cutT xs (xs.length / 8) else [])) xs = true := (decide_eq_true (by exact cutIf_back (by assumption)))
        rw [hb_153] at hv_142; subst hv_142
        refine K.RW.q rfl (by kernel_rfl) (K.QR.k (v := .bool true) (by kernel_rfl)) ?_
        refine K.RW.q rfl (by kernel_rfl) (K.QR.k (v := .bool true) (by kernel_rfl)) ?_
        refine K.RW.skip rfl (by kernel_rfl) ?_
        refine K.RW.skip rfl (by kernel_rfl) ?_
        refine K.RW.skip rfl (by kernel_rfl) ?_
        refine K.RW.skip rfl (by kernel_rfl) ?_
        refine K.RW.skip rfl (by kernel_rfl) ?_
        refine K.RW.skip rfl (by kernel_rfl) ?_
        refine K.RW.skip rfl (by kernel_rfl) ?_
        refine K.RW.q rfl (by kernel_rfl) (K.QR.k (v := .bool true) (by kernel_rfl)) ?_
        refine K.RW.q rfl rfl (K.QR.k (v := .bool true) (by kernel_rfl)) ?_
        refine K.RW.q rfl rfl (K.QR.k (v := .bool true) (by kernel_rfl)) ?_
        refine K.RW.nil ?_
        refine K.thn_normal ?_
        refine K.KW.ret ?_
        refine ⟨.inr rfl, rfl, (.bool true), K.res1 rfl rfl, ?_⟩
        exact ⟨rfl, c_144⟩
      ·  -- no
        refine K.RW.q rfl (by kernel_rfl) (K.QR.nice (v := .bool (((mayR xs.length 8) : Int) == (0 : Int))) (by kernel_rfl) (congrArg Value.bool (beq_eq_false_iff_ne.2 h_123))) ?_
        refine K.RW.q rfl (by kernel_rfl) (K.QR.k (v := .bool false) (by kernel_rfl)) ?_
        refine K.RW.skip rfl (by kernel_rfl) ?_
        refine K.RW.skip rfl (by kernel_rfl) ?_
        refine K.RW.skip rfl (by kernel_rfl) ?_
        refine K.RW.skip rfl (by kernel_rfl) ?_
        refine K.RW.q rfl (by kernel_rfl) (K.QR.k (v := .bool false) (by kernel_rfl)) ?_
        refine K.RW.q rfl (by kernel_rfl) (K.QR.k (v := .bool false) (by kernel_rfl)) ?_
        refine K.RW.q rfl (by kernel_rfl) (K.QR.k (v := .int .i64 (mayR xs.length 8)) (by kernel_rfl)) ?_
        refine K.RW.q rfl (by kernel_rfl) (K.QR.nice (v := .bool (((mayR xs.length 8) : Int) != (0 : Int))) (by kernel_rfl) (congrArg Value.bool (bne_iff_ne.2 h_123))) ?_
        refine K.RW.q rfl (by kernel_rfl) (K.QR.k (v := .bool true) (by kernel_rfl)) ?_
        refine K.RW.q rfl (by kernel_rfl) (K.QR.k (v := .slice r_36 ((if mayR xs.length 8 = 0 then cutT xs (xs.length / 8) else []).length) cc_38) (by kernel_rfl)) ?_
        refine K.RW.q rfl (by kernel_rfl) (K.QR.len (P := Try.prog) rfl rfl Try.underlying36) ?_
        refine K.RW.q rfl (by kernel_rfl) (K.QR.nice (v := .bool (((((if mayR xs.length 8 = 0 then cutT xs (xs.length / 8) else []).length : Nat) : Int) : Int) == (0 : Int))) (by kernel_rfl) (congrArg Value.bool (beq_iff_eq.2 (by rw [if_neg (by assumption)]; rfl)))) ?_
        refine K.RW.q rfl (by kernel_rfl) (K.QR.k (v := .bool true) (by kernel_rfl)) ?_
        refine K.RW.q rfl (by kernel_rfl) (K.QR.k (v := .bool true) (by kernel_rfl)) ?_
        refine K.RW.q rfl rfl (K.QR.k (v := .bool true) (by kernel_rfl)) ?_
        refine K.RW.q rfl rfl (K.QR.k (v := .bool true) (by kernel_rfl)) ?_
        refine K.RW.nil ?_
        refine K.thn_normal ?_
        refine K.KW.ret ?_
        refine ⟨.inr rfl, rfl, (.bool true), K.res1 rfl rfl, ?_⟩
        exact ⟨rfl, c_115⟩

set_option maxHeartbeats 1000000 in
set_option maxRecDepth 100000 in
theorem linI_ok (a b : Option Addr) (cap cap' : Nat) (ls : List (List Int)) (xs : List Int) (w0 : World) (hm0 : ls.length ≤ 9223372036854775807) (hm1 : xs.length ≤ 9223372036854775807) (hc0 : ls.length ≤ cap) (hc1 : xs.length ≤ cap') (hw : allLines ls) (hb : allBytes xs) (hx : RLn w0 a ls) (hy : RU8 w0 b xs) :
    K.KC Try.prog 7 #[.slice a ls.length cap, .slice b xs.length cap'] w0 (fun v w' => v = .bool true ∧ K.Chg K.No w0 w') := by
  have hfl := flatL_len ls
  have hal := allB_len ls
  have hfw := flat_words hw
  have hab := allB_bytes ls
  have hil := imgIf_lines hb
  have hq1 := imgIf_len (allB ls)
  have hq2 := imgIf_len xs
  have hq3 := imgIf_flen (allB ls)
  have hq4 := imgIf_flen xs
  refine K.KC.mk (n := 81) Try.func7 rfl rfl [.slice a ls.length cap, .slice b xs.length cap'] rfl rfl ?_
  refine K.KW.seq ?_
  -- region 0 law.go:58
  refine K.KW.region ?_
  refine K.RW.q rfl rfl (K.QR.k (v := .bool false) (by kernel_rfl)) ?_
  refine K.RW.nil ?_
  refine K.thn_normal ?_
  refine K.KW.seq ?_
  refine K.KW.seq ?_
  -- region 1 law.go:59
  refine K.KW.region ?_
  refine K.RW.q rfl rfl (K.QR.k (v := .slice a ls.length cap) (by kernel_rfl)) ?_
  refine K.RW.q rfl rfl (K.QR.len (P := Try.prog) rfl rfl Try.underlying36) ?_
  by_cases h_1 : (((ls.length : Nat) : Int) : Int) > (40 : Int)
  ·  -- yes
    refine K.RW.q rfl rfl (K.QR.nice (v := .bool (decide ((((ls.length : Nat) : Int) : Int) > (40 : Int)))) (by kernel_rfl) (congrArg Value.bool (decide_eq_true h_1))) ?_
    refine K.RW.q rfl rfl (K.QR.k (v := .bool true) (by kernel_rfl)) ?_
    refine K.RW.skip rfl (by kernel_rfl) ?_
    refine K.RW.skip rfl (by kernel_rfl) ?_
    refine K.RW.skip rfl (by kernel_rfl) ?_
    refine K.RW.q rfl rfl (K.QR.k (v := .bool true) (by kernel_rfl)) ?_
    refine K.RW.nil ?_
    refine K.thn_normal ?_
    refine K.KW.ifT rfl ?_
    refine K.KW.seq ?_
    -- region 2 law.go:60
    refine K.KW.region ?_
    refine K.RW.l rfl (K.OW.call rfl [] rfl rfl (by kernel_rfl) (awake03_ok _) ?_) 
    rintro _ w_3 ⟨rfl, c_2⟩
    have c_4 := c_2
    have z_5 := c_4.size
    have zz_6 := c_2.size
    refine K.RW.q rfl rfl (K.QR.k (v := .bool true) (by kernel_rfl)) ?_
    refine K.RW.nil ?_
    refine K.thn_normal ?_
    refine K.KW.ret ?_
    refine K.thn_ret ?_
    refine ⟨.inr rfl, rfl, (.bool true), K.res1 rfl rfl, ?_⟩
    exact ⟨rfl, c_4⟩
  ·  -- no
    refine K.RW.q rfl rfl (K.QR.nice (v := .bool (decide ((((ls.length : Nat) : Int) : Int) > (40 : Int)))) (by kernel_rfl) (congrArg Value.bool (decide_eq_false h_1))) ?_
    refine K.RW.q rfl rfl (K.QR.k (v := .bool false) (by kernel_rfl)) ?_
    refine K.RW.q rfl (by kernel_rfl) (K.QR.k (v := .slice b xs.length cap') (by kernel_rfl)) ?_
    refine K.RW.q rfl (by kernel_rfl) (K.QR.len (P := Try.prog) rfl rfl Try.underlying25) ?_
    by_cases h_7 : (((xs.length : Nat) : Int) : Int) > (3000 : Int)
    ·  -- yes
      refine K.RW.q rfl (by kernel_rfl) (K.QR.nice (v := .bool (decide ((((xs.length : Nat) : Int) : Int) > (3000 : Int)))) (by kernel_rfl) (congrArg Value.bool (decide_eq_true h_7))) ?_
      refine K.RW.q rfl rfl (K.QR.k (v := .bool true) (by kernel_rfl)) ?_
      refine K.RW.nil ?_
      refine K.thn_normal ?_
      refine K.KW.ifT rfl ?_
      refine K.KW.seq ?_
      -- region 2 law.go:60
      refine K.KW.region ?_
      refine K.RW.l rfl (K.OW.call rfl [] rfl rfl (by kernel_rfl) (awake03_ok _) ?_) 
      rintro _ w_9 ⟨rfl, c_8⟩
      have c_10 := c_8
      have z_11 := c_10.size
      have zz_12 := c_8.size
      refine K.RW.q rfl rfl (K.QR.k (v := .bool true) (by kernel_rfl)) ?_
      refine K.RW.nil ?_
      refine K.thn_normal ?_
      refine K.KW.ret ?_
      refine K.thn_ret ?_
      refine ⟨.inr rfl, rfl, (.bool true), K.res1 rfl rfl, ?_⟩
      exact ⟨rfl, c_10⟩
    ·  -- no
      refine K.RW.q rfl (by kernel_rfl) (K.QR.nice (v := .bool (decide ((((xs.length : Nat) : Int) : Int) > (3000 : Int)))) (by kernel_rfl) (congrArg Value.bool (decide_eq_false h_7))) ?_
      refine K.RW.q rfl rfl (K.QR.k (v := .bool false) (by kernel_rfl)) ?_
      refine K.RW.nil ?_
      refine K.thn_normal ?_
      refine K.KW.ifF rfl ?_
      refine K.KW.skip ?_
      refine K.thn_normal ?_
      refine K.KW.seq ?_
      -- region 3 law.go:62
      refine K.KW.region ?_
      refine K.RW.q rfl rfl (K.QR.k (v := .slice a ls.length cap) (by kernel_rfl)) ?_
      refine K.RW.l rfl (K.OW.call rfl [.slice a ls.length cap] rfl rfl (by kernel_rfl) (all_ok _ _ ls _ (by first | omega | (simp; omega) | (simp; done)) (by first | assumption | (apply allLines_lit; decide)) hx) ?_) 
      rintro _ w_19 ⟨r_13, m_14, cc_15, rfl, c_16, o_17, rfl⟩
      have c_20 := c_16
      have z_21 := c_20.size
      have zz_22 := c_16.size
      have o_23 := K.Own.mono (base' := w0.heap.size) o_17 (by omega)
      refine K.RW.q rfl rfl (K.QR.k (v := .slice r_13 ((allB ls).length) cc_15) (by kernel_rfl)) ?_
      refine K.RW.nil ?_
      refine K.thn_normal ?_
      refine K.KW.seq ?_
      -- region 4 law.go:63
      refine K.KW.region ?_
      refine K.RW.q rfl rfl (K.QR.k (v := .slice r_13 ((allB ls).length) cc_15) (by kernel_rfl)) ?_
      refine K.RW.l rfl (K.OW.call rfl [.slice r_13 ((allB ls).length) cc_15] rfl rfl (by kernel_rfl) (image_ok _ _ (allB ls) _ (by first | omega | (simp; omega) | (simp; done)) (by have h0 := own_le_cap o_23; omega) (by first | assumption | exact bytesL_bytes _ | exact allBytes_sub (by assumption) (mem_take) | exact allBytes_sub (by assumption) (fun x h => mem_drop x (mem_take x h))) (K.Own.rowE 0 o_23 rfl (fun _ => rfl))) ?_) 
      rintro _ w_30 ⟨r_24, m_25, cc_26, rfl, c_27, o_28, rfl⟩
      have c_31 := c_20.no c_27
      have z_32 := c_31.size
      have zz_33 := c_27.size
      have f_34 := o_23.no c_27
      have o_35 := K.Own.mono (base' := w0.heap.size) o_28 (by omega)
      refine K.RW.q rfl rfl (K.QR.k (v := .tuple #[.slice r_24 ((if mayR (allB ls).length 64 = 0 then imgT (allB ls) ((allB ls).length / 64) else []).length) cc_26, .int .i64 (mayR (allB ls).length 64)]) (by kernel_rfl)) ?_
      refine K.RW.q rfl rfl (K.QR.k (v := .slice r_24 ((if mayR (allB ls).length 64 = 0 then imgT (allB ls) ((allB ls).length / 64) else []).length) cc_26) (by kernel_rfl)) ?_
      refine K.RW.q rfl rfl (K.QR.k (v := .int .i64 (mayR (allB ls).length 64)) (by kernel_rfl)) ?_
      refine K.RW.q rfl rfl (K.QR.k (v := .slice r_24 ((if mayR (allB ls).length 64 = 0 then imgT (allB ls) ((allB ls).length / 64) else []).length) cc_26) (by kernel_rfl)) ?_
      refine K.RW.q rfl rfl (K.QR.k (v := .int .i64 (mayR (allB ls).length 64)) (by kernel_rfl)) ?_
      refine K.RW.nil ?_
      refine K.thn_normal ?_
      refine K.KW.seq ?_
      -- region 5 law.go:64
      refine K.KW.region ?_
      refine K.RW.q rfl rfl (K.QR.k (v := .slice b xs.length cap') (by kernel_rfl)) ?_
      refine K.RW.l rfl (K.OW.call rfl [.slice b xs.length cap'] rfl rfl (by kernel_rfl) (image_ok _ _ xs _ (by first | omega | (simp; omega) | (simp; done)) (by first | omega | assumption) (by first | assumption | exact bytesL_bytes _ | exact allBytes_sub (by assumption) (mem_take) | exact allBytes_sub (by assumption) (fun x h => mem_drop x (mem_take x h))) (hy.no c_31)) ?_) 
      rintro _ w_42 ⟨r_36, m_37, cc_38, rfl, c_39, o_40, rfl⟩
      have c_43 := c_31.no c_39
      have z_44 := c_43.size
      have zz_45 := c_39.size
      have f_46 := f_34.no c_39
      have f_47 := o_35.no c_39
      have o_48 := K.Own.mono (base' := w0.heap.size) o_40 (by omega)
      refine K.RW.q rfl rfl (K.QR.k (v := .tuple #[.slice r_36 ((if mayR xs.length 64 = 0 then imgT xs (xs.length / 64) else []).length) cc_38, .int .i64 (mayR xs.length 64)]) (by kernel_rfl)) ?_
      refine K.RW.q rfl rfl (K.QR.k (v := .slice r_36 ((if mayR xs.length 64 = 0 then imgT xs (xs.length / 64) else []).length) cc_38) (by kernel_rfl)) ?_
      refine K.RW.q rfl rfl (K.QR.k (v := .int .i64 (mayR xs.length 64)) (by kernel_rfl)) ?_
      refine K.RW.q rfl rfl (K.QR.k (v := .slice r_36 ((if mayR xs.length 64 = 0 then imgT xs (xs.length / 64) else []).length) cc_38) (by kernel_rfl)) ?_
      refine K.RW.q rfl rfl (K.QR.k (v := .int .i64 (mayR xs.length 64)) (by kernel_rfl)) ?_
      refine K.RW.nil ?_
      refine K.thn_normal ?_
      refine K.KW.seq ?_
      refine K.KW.seq ?_
      -- region 6 law.go:65
      refine K.KW.drawn (fun w => K.Chg K.No w0 w ∧ K.Own w w0.heap.size 5 1 r_13 ((allB ls).length) cc_15 (((allB ls)).flatMap cU8)) (by kernel_rfl) ?_
      intro w_49 e_50 hs_51
      have c_53 := c_43.no e_50
      have z_54 := c_53.size
      have zz_55 := e_50.size
      have f_56 := f_46.no e_50
      have f_57 := f_47.no e_50
      have f_58 := o_48.no e_50
      have hS_52 : (fun w => K.Chg K.No w0 w ∧ K.Own w w0.heap.size 5 1 r_13 ((allB ls).length) cc_15 (((allB ls)).flatMap cU8)) w_49 := ⟨c_53, f_56⟩
      refine K.DW.q 0 (by kernel_rfl) rfl rfl (by kernel_rfl) rfl (fun w hS => K.QR.k (v := .slice r_13 ((allB ls).length) cc_15) (by kernel_rfl)) hS_52 ?_
      refine K.DW.q 1 (by kernel_rfl) rfl rfl (by kernel_rfl) rfl (fun w hS => K.QR.b2s (xs := (allB ls)) rfl rfl Try.underlying25 Try.underlying5 Try.underlying9 rfl (K.Own.rowE 0 (hS.2) rfl (fun _ => rfl))) hS_52 ?_
      refine K.DW.l 2 rfl (by kernel_rfl) rfl (K.OW.q rfl (K.QR.k (v := .slice a ls.length cap) (by kernel_rfl)) ?_)
      refine ⟨.inl hS_52, ?_⟩
      refine K.DW.l 3 rfl (by kernel_rfl) rfl (K.OW.call rfl [.slice a ls.length cap] rfl rfl (by kernel_rfl) (flat_ok _ _ ls _ (by first | omega | (simp; omega) | (simp; done)) (hx.no c_53)) ?_)
      rintro _ w_65 ⟨r_59, m_60, cc_61, rfl, c_62, o_63, rfl⟩
      have c_66 := c_53.no c_62
      have z_67 := c_66.size
      have zz_68 := c_62.size
      have f_69 := f_56.no c_62
      have f_70 := f_57.no c_62
      have f_71 := f_58.no c_62
      have o_72 := K.Own.mono (base' := w0.heap.size) o_63 (by omega)
      have hS_73 : (fun w => K.Chg K.No w0 w ∧ K.Own w w0.heap.size 5 1 r_13 ((allB ls).length) cc_15 (((allB ls)).flatMap cU8)) w_65 := ⟨c_66, f_69⟩
      refine ⟨.inl hS_73, ?_⟩
      refine K.DW.l 4 rfl (by kernel_rfl) rfl (K.OW.call rfl [.slice r_59 ((flatL ls).length) cc_61] rfl rfl (by kernel_rfl) (rbytes_ok _ _ (flatL ls) _ (by first | omega | (simp; omega) | (simp; done)) (by first | assumption | exact ln8_words (by assumption) | exact flat_words (by assumption) | exact words_words (by assumption) _ | exact ln8_words (words_words (by assumption) _) | (apply allWords_lit; decide)) (K.Own.rowE 0 o_72 rfl (fun _ => rfl))) ?_)
      rintro _ w_80 ⟨r_74, m_75, cc_76, rfl, c_77, o_78, rfl⟩
      have c_81 := c_66.no c_77
      have z_82 := c_81.size
      have zz_83 := c_77.size
      have f_84 := f_69.no c_77
      have f_85 := f_70.no c_77
      have f_86 := f_71.no c_77
      have f_87 := o_72.no c_77
      have o_88 := K.Own.mono (base' := w0.heap.size) o_78 (by omega)
      have hS_89 : (fun w => K.Chg K.No w0 w ∧ K.Own w w0.heap.size 5 1 r_13 ((allB ls).length) cc_15 (((allB ls)).flatMap cU8)) w_80 := ⟨c_81, f_84⟩
      refine ⟨.inl hS_89, ?_⟩
      refine K.DW.l 5 rfl (by kernel_rfl) rfl (K.OW.q rfl (K.QR.b2s (xs := (bytesL (flatL ls))) rfl rfl Try.underlying25 Try.underlying5 Try.underlying9 rfl (K.Own.rowE 0 o_88 rfl (fun _ => rfl))) ?_)
      refine ⟨.inl hS_89, ?_⟩
      refine K.DW.l 6 rfl (by kernel_rfl) rfl (K.OW.q rfl (K.QR.turn (K.QR.strNe rfl rfl rfl) (show _ = Value.bool false from congrArg Value.bool (by (rw [show ((allB ls) = (bytesL (flatL ls))) from (rfl)]) <;> simp))) ?_)
      refine ⟨.inl hS_89, ?_⟩
      refine K.DW.l 7 rfl (by kernel_rfl) rfl (K.OW.q rfl (K.QR.k (v := .bool false) (by kernel_rfl)) ?_)
      refine ⟨.inl hS_89, ?_⟩
      refine K.DW.l 8 rfl (by kernel_rfl) (by kernel_rfl) (K.OW.q rfl (K.QR.k (v := .int .i64 (mayR (allB ls).length 64)) (by kernel_rfl)) ?_)
      refine ⟨.inl hS_89, ?_⟩
      refine K.DW.l 9 rfl (by kernel_rfl) (by kernel_rfl) (K.OW.q rfl (K.QR.nice (v := .bool (((mayR (allB ls).length 64) : Int) != (0 : Int))) (by kernel_rfl) (congrArg Value.bool (bne_eq_false_iff_eq.2 (by exact mayAll (by omega))))) ?_)
      refine ⟨.inl hS_89, ?_⟩
      refine K.DW.l 10 rfl (by kernel_rfl) rfl (K.OW.q rfl (K.QR.k (v := .bool false) (by kernel_rfl)) ?_)
      refine ⟨.inl hS_89, ?_⟩
      refine K.DW.l 11 rfl (by kernel_rfl) rfl (K.OW.q rfl (K.QR.k (v := .bool false) (by kernel_rfl)) ?_)
      refine ⟨.inl hS_89, ?_⟩
      refine K.DW.q 12 (by kernel_rfl) rfl rfl (by kernel_rfl) (by kernel_rfl) (fun w hS => K.QR.k (v := .slice r_24 ((if mayR (allB ls).length 64 = 0 then imgT (allB ls) ((allB ls).length / 64) else []).length) cc_26) (by kernel_rfl)) hS_89 ?_
      refine K.DW.q 14 (by kernel_rfl) rfl rfl (by kernel_rfl) (by kernel_rfl) (fun w hS => K.QR.k (v := .slice a ls.length cap) (by kernel_rfl)) hS_89 ?_
      refine K.DW.l 13 rfl (by kernel_rfl) (by kernel_rfl) (K.OW.call rfl [.slice r_24 ((if mayR (allB ls).length 64 = 0 then imgT (allB ls) ((allB ls).length / 64) else []).length) cc_26] rfl rfl (by kernel_rfl) (flat_ok _ _ (if mayR (allB ls).length 64 = 0 then imgT (allB ls) ((allB ls).length / 64) else []) _ (by first | omega | (simp; omega) | (simp; done)) (K.Own.rowE ([] : List Int) f_85 rfl (fun _ => rfl))) ?_)
      rintro _ w_96 ⟨r_90, m_91, cc_92, rfl, c_93, o_94, rfl⟩
      have c_97 := c_81.no c_93
      have z_98 := c_97.size
      have zz_99 := c_93.size
      have f_100 := f_84.no c_93
      have f_101 := f_85.no c_93
      have f_102 := f_86.no c_93
      have f_103 := f_87.no c_93
      have f_104 := o_88.no c_93
      have o_105 := K.Own.mono (base' := w0.heap.size) o_94 (by omega)
      have hS_106 : (fun w => K.Chg K.No w0 w ∧ K.Own w w0.heap.size 5 1 r_13 ((allB ls).length) cc_15 (((allB ls)).flatMap cU8)) w_96 := ⟨c_97, f_100⟩
      refine ⟨.inl hS_106, ?_⟩
      refine K.DW.l 15 rfl (by kernel_rfl) (by kernel_rfl) (K.OW.call rfl [.slice a ls.length cap] rfl rfl (by kernel_rfl) (flat_ok _ _ ls _ (by first | omega | (simp; omega) | (simp; done)) (hx.no c_97)) ?_)
      rintro _ w_113 ⟨r_107, m_108, cc_109, rfl, c_110, o_111, rfl⟩
      have c_114 := c_97.no c_110
      have z_115 := c_114.size
      have zz_116 := c_110.size
      have f_117 := f_100.no c_110
      have f_118 := f_101.no c_110
      have f_119 := f_102.no c_110
      have f_120 := f_103.no c_110
      have f_121 := f_104.no c_110
      have f_122 := o_105.no c_110
      have o_123 := K.Own.mono (base' := w0.heap.size) o_111 (by omega)
      have hS_124 : (fun w => K.Chg K.No w0 w ∧ K.Own w w0.heap.size 5 1 r_13 ((allB ls).length) cc_15 (((allB ls)).flatMap cU8)) w_113 := ⟨c_114, f_117⟩
      refine ⟨.inl hS_124, ?_⟩
      refine K.DW.l 16 rfl (by kernel_rfl) (by kernel_rfl) (K.OW.call rfl [.slice r_90 ((flatL (if mayR (allB ls).length 64 = 0 then imgT (allB ls) ((allB ls).length / 64) else [])).length) cc_92, .slice r_107 ((flatL ls).length) cc_109] rfl rfl (by kernel_rfl) (same_ok _ _ _ _ (flatL (if mayR (allB ls).length 64 = 0 then imgT (allB ls) ((allB ls).length / 64) else [])) (flatL ls) _ (by first | omega | (simp; omega) | simp) (K.Own.rowE 0 f_122 rfl (fun _ => rfl)) (K.Own.rowE 0 o_123 rfl (fun _ => rfl))) ?_)
      rintro v_128 w_126 ⟨hv_127, c_125⟩
      have c_129 := c_114.no c_125
      have z_130 := c_129.size
      have zz_131 := c_125.size
      have f_132 := f_117.no c_125
      have f_133 := f_118.no c_125
      have f_134 := f_119.no c_125
      have f_135 := f_120.no c_125
      have f_136 := f_121.no c_125
      have f_137 := f_122.no c_125
      have f_138 := o_123.no c_125
      have hb_139 : sameB (flatL (if mayR (allB ls).length 64 = 0 then imgT (allB ls) ((allB ls).length / 64) else [])) (flatL ls) = true := (decide_eq_true (by exact imgIf_back hw (by omega)))
      rw [hb_139] at hv_127; subst hv_127
      have hS_140 : (fun w => K.Chg K.No w0 w ∧ K.Own w w0.heap.size 5 1 r_13 ((allB ls).length) cc_15 (((allB ls)).flatMap cU8)) w_126 := ⟨c_129, f_132⟩
      refine ⟨.inl hS_140, ?_⟩
      refine K.DW.l 17 rfl (by kernel_rfl) (by kernel_rfl) (K.OW.q rfl (K.QR.k (v := .bool false) (by kernel_rfl)) ?_)
      refine ⟨.inl hS_140, ?_⟩
      refine K.DW.l 18 rfl (by kernel_rfl) rfl (K.OW.q rfl (K.QR.k (v := .bool false) (by kernel_rfl)) ?_)
      refine ⟨.inl hS_140, ?_⟩
      refine K.DW.l 19 rfl (by kernel_rfl) rfl (K.OW.q rfl (K.QR.k (v := .bool false) (by kernel_rfl)) ?_)
      refine ⟨.inl hS_140, ?_⟩
      refine K.DW.q 20 (by kernel_rfl) rfl rfl (by kernel_rfl) (by kernel_rfl) (fun w hS => K.QR.k (v := .int .i64 (mayR xs.length 64)) (by kernel_rfl)) hS_140 ?_
      refine K.DW.l 21 rfl (by kernel_rfl) (by kernel_rfl) (K.OW.q rfl (K.QR.k (v := .slice b xs.length cap') (by kernel_rfl)) ?_)
      refine ⟨.inl hS_140, ?_⟩
      refine K.DW.l 22 rfl (by kernel_rfl) (by kernel_rfl) (K.OW.q rfl (K.QR.len (P := Try.prog) rfl rfl Try.underlying25) ?_)
      refine ⟨.inl hS_140, ?_⟩
      refine K.DW.l 23 rfl (by kernel_rfl) (by kernel_rfl) (K.OW.call rfl [.int .i64 ((xs.length : Nat) : Int), .int .i64 64] rfl rfl (by kernel_rfl) (may64 xs.length _ (by first | omega | (simp; omega) | (simp; done))) ?_)
      rintro _ w_142 ⟨rfl, c_141⟩
      have c_143 := c_129.no c_141
      have z_144 := c_143.size
      have zz_145 := c_141.size
      have f_146 := f_132.no c_141
      have f_147 := f_133.no c_141
      have f_148 := f_134.no c_141
      have f_149 := f_135.no c_141
      have f_150 := f_136.no c_141
      have f_151 := f_137.no c_141
      have f_152 := f_138.no c_141
      have hS_153 : (fun w => K.Chg K.No w0 w ∧ K.Own w w0.heap.size 5 1 r_13 ((allB ls).length) cc_15 (((allB ls)).flatMap cU8)) w_142 := ⟨c_143, f_146⟩
      refine ⟨.inl hS_153, ?_⟩
      refine K.DW.l 24 rfl (by kernel_rfl) (by kernel_rfl) (K.OW.q rfl (K.QR.nice (v := .bool (((mayR xs.length 64) : Int) != ((mayR xs.length 64) : Int))) (by kernel_rfl) (congrArg Value.bool (bne_eq_false_iff_eq.2 (rfl)))) ?_)
      refine ⟨.inl hS_153, ?_⟩
      refine K.DW.l 25 rfl (by kernel_rfl) rfl (K.OW.q rfl (K.QR.k (v := .bool false) (by kernel_rfl)) ?_)
      refine ⟨.inl hS_153, ?_⟩
      refine K.DW.done (by kernel_rfl) ?_
      refine K.thn_normal ?_
      refine K.KW.ifF rfl ?_
      refine K.KW.skip ?_
      refine K.thn_normal ?_
      refine K.KW.seq ?_
      refine K.KW.seq ?_
      -- region 8 law.go:68
      refine K.KW.region ?_
      refine K.RW.q rfl rfl (K.QR.k (v := .int .i64 (mayR xs.length 64)) (by kernel_rfl)) ?_
      by_cases h_154 : ((mayR xs.length 64) : Int) = (0 : Int)
      ·  -- yes
        refine K.RW.q rfl rfl (K.QR.nice (v := .bool (((mayR xs.length 64) : Int) != (0 : Int))) (by kernel_rfl) (congrArg Value.bool (bne_eq_false_iff_eq.2 h_154))) ?_
        refine K.RW.nil ?_
        refine K.thn_normal ?_
        refine K.KW.ifF rfl ?_
        refine K.KW.skip ?_
        refine K.thn_normal ?_
        refine K.KW.seq ?_
        -- region 10 law.go:71
        refine K.KW.drawn (fun w => K.Chg K.No w0 w) (by kernel_rfl) ?_
        intro w_155 e_156 hs_157
        have c_159 := c_143.no e_156
        have z_160 := c_159.size
        have zz_161 := e_156.size
        have f_162 := f_146.no e_156
        have f_163 := f_147.no e_156
        have f_164 := f_148.no e_156
        have f_165 := f_149.no e_156
        have f_166 := f_150.no e_156
        have f_167 := f_151.no e_156
        have f_168 := f_152.no e_156
        have hS_158 : (fun w => K.Chg K.No w0 w) w_155 := c_159
        refine K.DW.l 0 rfl (by kernel_rfl) rfl (K.OW.call rfl [] rfl rfl (by kernel_rfl) (awake03_ok _) ?_)
        rintro _ w_170 ⟨rfl, c_169⟩
        have c_171 := c_159.no c_169
        have z_172 := c_171.size
        have zz_173 := c_169.size
        have f_174 := f_162.no c_169
        have f_175 := f_163.no c_169
        have f_176 := f_164.no c_169
        have f_177 := f_165.no c_169
        have f_178 := f_166.no c_169
        have f_179 := f_167.no c_169
        have f_180 := f_168.no c_169
        have hS_181 : (fun w => K.Chg K.No w0 w) w_170 := c_171
        refine ⟨.inl hS_181, ?_⟩
        refine K.DW.l 1 rfl (by kernel_rfl) rfl (K.OW.q rfl (K.QR.k (v := .bool true) (by kernel_rfl)) ?_)
        refine ⟨.inl hS_181, ?_⟩
        refine K.DW.q 2 (by kernel_rfl) rfl rfl (by kernel_rfl) (by kernel_rfl) (fun w hS => K.QR.k (v := .slice r_36 ((if mayR xs.length 64 = 0 then imgT xs (xs.length / 64) else []).length) cc_38) (by kernel_rfl)) hS_181 ?_
        refine K.DW.q 4 (by kernel_rfl) rfl rfl (by kernel_rfl) (by kernel_rfl) (fun w hS => K.QR.k (v := .slice b xs.length cap') (by kernel_rfl)) hS_181 ?_
        refine K.DW.l 3 rfl (by kernel_rfl) (by kernel_rfl) (K.OW.call rfl [.slice r_36 ((if mayR xs.length 64 = 0 then imgT xs (xs.length / 64) else []).length) cc_38] rfl rfl (by kernel_rfl) (flat_ok _ _ (if mayR xs.length 64 = 0 then imgT xs (xs.length / 64) else []) _ (by first | omega | (simp; omega) | (simp; done)) (K.Own.rowE ([] : List Int) f_176 rfl (fun _ => rfl))) ?_)
        rintro _ w_188 ⟨r_182, m_183, cc_184, rfl, c_185, o_186, rfl⟩
        have c_189 := c_171.no c_185
        have z_190 := c_189.size
        have zz_191 := c_185.size
        have f_192 := f_174.no c_185
        have f_193 := f_175.no c_185
        have f_194 := f_176.no c_185
        have f_195 := f_177.no c_185
        have f_196 := f_178.no c_185
        have f_197 := f_179.no c_185
        have f_198 := f_180.no c_185
        have o_199 := K.Own.mono (base' := w0.heap.size) o_186 (by omega)
        have hS_200 : (fun w => K.Chg K.No w0 w) w_188 := c_189
        refine ⟨.inl hS_200, ?_⟩
        refine K.DW.l 5 rfl (by kernel_rfl) (by kernel_rfl) (K.OW.call rfl [.slice b xs.length cap'] rfl rfl (by kernel_rfl) (rwords_ok _ _ xs _ (by first | omega | (simp; omega) | (simp; done)) (by first | assumption | exact bytesL_bytes _ | exact allBytes_sub (by assumption) (mem_take) | exact allBytes_sub (by assumption) (fun x h => mem_drop x (mem_take x h))) (hy.no c_189)) ?_)
        rintro _ w_207 ⟨r_201, m_202, cc_203, rfl, c_204, o_205, rfl⟩
        have c_208 := c_189.no c_204
        have z_209 := c_208.size
        have zz_210 := c_204.size
        have f_211 := f_192.no c_204
        have f_212 := f_193.no c_204
        have f_213 := f_194.no c_204
        have f_214 := f_195.no c_204
        have f_215 := f_196.no c_204
        have f_216 := f_197.no c_204
        have f_217 := f_198.no c_204
        have f_218 := o_199.no c_204
        have o_219 := K.Own.mono (base' := w0.heap.size) o_205 (by omega)
        have hS_220 : (fun w => K.Chg K.No w0 w) w_207 := c_208
        refine ⟨.inl hS_220, ?_⟩
        refine K.DW.l 6 rfl (by kernel_rfl) (by kernel_rfl) (K.OW.call rfl [.slice r_182 ((flatL (if mayR xs.length 64 = 0 then imgT xs (xs.length / 64) else [])).length) cc_184, .slice r_201 ((wordsL xs).length) cc_203] rfl rfl (by kernel_rfl) (same_ok _ _ _ _ (flatL (if mayR xs.length 64 = 0 then imgT xs (xs.length / 64) else [])) (wordsL xs) _ (by first | omega | (simp; omega) | simp) (K.Own.rowE 0 f_218 rfl (fun _ => rfl)) (K.Own.rowE 0 o_219 rfl (fun _ => rfl))) ?_)
        rintro v_224 w_222 ⟨hv_223, c_221⟩
        have c_225 := c_208.no c_221
        have z_226 := c_225.size
        have zz_227 := c_221.size
        have f_228 := f_211.no c_221
        have f_229 := f_212.no c_221
        have f_230 := f_213.no c_221
        have f_231 := f_214.no c_221
        have f_232 := f_215.no c_221
        have f_233 := f_216.no c_221
        have f_234 := f_217.no c_221
        have f_235 := f_218.no c_221
        have f_236 := o_219.no c_221
        have hb_237 : sameB (flatL (if mayR xs.length 64 = 0 then imgT xs (xs.length / 64) else [])) (wordsL xs) = true := (decide_eq_true (by exact imgIf_words (by assumption)))
        rw [hb_237] at hv_223; subst hv_223
        have hS_238 : (fun w => K.Chg K.No w0 w) w_222 := c_225
        refine ⟨.inl hS_238, ?_⟩
        refine K.DW.l 7 rfl (by kernel_rfl) rfl (K.OW.q rfl (K.QR.k (v := .bool true) (by kernel_rfl)) ?_)
        refine ⟨.inl hS_238, ?_⟩
        refine K.DW.l 8 rfl (by kernel_rfl) rfl (K.OW.q rfl (K.QR.k (v := .bool true) (by kernel_rfl)) ?_)
        refine ⟨.inl hS_238, ?_⟩
        refine K.DW.q 9 (by kernel_rfl) rfl rfl (by kernel_rfl) (by kernel_rfl) (fun w hS => K.QR.k (v := .slice r_36 ((if mayR xs.length 64 = 0 then imgT xs (xs.length / 64) else []).length) cc_38) (by kernel_rfl)) hS_238 ?_
        refine K.DW.q 12 (by kernel_rfl) rfl rfl (by kernel_rfl) (by kernel_rfl) (fun w hS => K.QR.k (v := .slice b xs.length cap') (by kernel_rfl)) hS_238 ?_
        refine K.DW.q 13 (by kernel_rfl) rfl rfl (by kernel_rfl) (by kernel_rfl) (fun w hS => K.QR.b2s (xs := xs) rfl rfl Try.underlying25 Try.underlying5 Try.underlying9 rfl (hy.no hS)) hS_238 ?_
        refine K.DW.l 10 rfl (by kernel_rfl) (by kernel_rfl) (K.OW.call rfl [.slice r_36 ((if mayR xs.length 64 = 0 then imgT xs (xs.length / 64) else []).length) cc_38] rfl rfl (by kernel_rfl) (all_ok _ _ (if mayR xs.length 64 = 0 then imgT xs (xs.length / 64) else []) _ (by first | omega | (simp; omega) | (simp; done)) (by first | assumption | (apply allLines_lit; decide)) (K.Own.rowE ([] : List Int) f_230 rfl (fun _ => rfl))) ?_)
        rintro _ w_245 ⟨r_239, m_240, cc_241, rfl, c_242, o_243, rfl⟩
        have c_246 := c_225.no c_242
        have z_247 := c_246.size
        have zz_248 := c_242.size
        have f_249 := f_228.no c_242
        have f_250 := f_229.no c_242
        have f_251 := f_230.no c_242
        have f_252 := f_231.no c_242
        have f_253 := f_232.no c_242
        have f_254 := f_233.no c_242
        have f_255 := f_234.no c_242
        have f_256 := f_235.no c_242
        have f_257 := f_236.no c_242
        have o_258 := K.Own.mono (base' := w0.heap.size) o_243 (by omega)
        have hS_259 : (fun w => K.Chg K.No w0 w) w_245 := c_246
        refine ⟨.inl hS_259, ?_⟩
        refine K.DW.l 11 rfl (by kernel_rfl) (by kernel_rfl) (K.OW.q rfl (K.QR.b2s (xs := (allB (if mayR xs.length 64 = 0 then imgT xs (xs.length / 64) else []))) rfl rfl Try.underlying25 Try.underlying5 Try.underlying9 rfl (K.Own.rowE 0 o_258 rfl (fun _ => rfl))) ?_)
        refine ⟨.inl hS_259, ?_⟩
        refine K.DW.l 14 rfl (by kernel_rfl) (by kernel_rfl) (K.OW.q rfl (K.QR.turn (K.QR.strEq rfl rfl rfl) (show _ = Value.bool true from congrArg Value.bool (by (rw [show ((allB (if mayR xs.length 64 = 0 then imgT xs (xs.length / 64) else [])) = xs) from (by exact imgIf_bytes hb (by assumption))]) <;> simp))) ?_)
        refine ⟨.inl hS_259, ?_⟩
        refine K.DW.l 15 rfl (by kernel_rfl) rfl (K.OW.q rfl (K.QR.k (v := .bool true) (by kernel_rfl)) ?_)
        refine ⟨.inl hS_259, ?_⟩
        refine K.DW.l 16 rfl (by kernel_rfl) rfl (K.OW.q rfl (K.QR.k (v := .bool true) (by kernel_rfl)) ?_)
        refine ⟨.inl hS_259, ?_⟩
        refine K.DW.done (by kernel_rfl) ?_
        refine K.thn_normal ?_
        refine K.KW.ret ?_
        refine ⟨.inr rfl, rfl, (.bool true), K.res1 rfl rfl, ?_⟩
        exact ⟨rfl, c_246⟩
      ·  -- no
        refine K.RW.q rfl rfl (K.QR.nice (v := .bool (((mayR xs.length 64) : Int) != (0 : Int))) (by kernel_rfl) (congrArg Value.bool (bne_iff_ne.2 h_154))) ?_
        refine K.RW.nil ?_
        refine K.thn_normal ?_
        refine K.KW.ifT rfl ?_
        refine K.KW.seq ?_
        -- region 9 law.go:69
        refine K.KW.region ?_
        refine K.RW.l rfl (K.OW.call rfl [] rfl rfl (by kernel_rfl) (awake03_ok _) ?_) 
        rintro _ w_261 ⟨rfl, c_260⟩
        have c_262 := c_143.no c_260
        have z_263 := c_262.size
        have zz_264 := c_260.size
        have f_265 := f_146.no c_260
        have f_266 := f_147.no c_260
        have f_267 := f_148.no c_260
        have f_268 := f_149.no c_260
        have f_269 := f_150.no c_260
        have f_270 := f_151.no c_260
        have f_271 := f_152.no c_260
        refine K.RW.q rfl rfl (K.QR.k (v := .bool true) (by kernel_rfl)) ?_
        refine K.RW.q rfl (by kernel_rfl) (K.QR.k (v := .slice r_36 ((if mayR xs.length 64 = 0 then imgT xs (xs.length / 64) else []).length) cc_38) (by kernel_rfl)) ?_
        refine K.RW.q rfl (by kernel_rfl) (K.QR.len (P := Try.prog) rfl rfl Try.underlying36) ?_
        refine K.RW.q rfl (by kernel_rfl) (K.QR.nice (v := .bool (((((if mayR xs.length 64 = 0 then imgT xs (xs.length / 64) else []).length : Nat) : Int) : Int) == (0 : Int))) (by kernel_rfl) (congrArg Value.bool (beq_iff_eq.2 (by rw [if_neg (by assumption)]; rfl)))) ?_
        refine K.RW.q rfl rfl (K.QR.k (v := .bool true) (by kernel_rfl)) ?_
        refine K.RW.q rfl rfl (K.QR.k (v := .bool true) (by kernel_rfl)) ?_
        refine K.RW.nil ?_
        refine K.thn_normal ?_
        refine K.KW.ret ?_
        refine K.thn_ret ?_
        refine ⟨.inr rfl, rfl, (.bool true), K.res1 rfl rfl, ?_⟩
        exact ⟨rfl, c_262⟩

end Go.Proofs.Ytcmlompigmhddaa
