/- ModelSames: which states are alike. -/
import Derived.Test.YtgeihjiichdpbaaFmod
namespace Go.Proofs.Ytgeihjiichdpbaa
open Go.RowKit
set_option linter.unusedVariables false
attribute [local irreducible] K.KW K.RW K.DW K.OW K.QR K.KC

theorem eqRes_t {a0 a1 b0 b1 : Int} (h : a0 = b0 ∧ a1 = b1) (w : World) : (Op.equal 52 (.agg #[.int .i64 a0, .int .u32 a1]) (.agg #[.int .i64 b0, .int .u32 b1])).run Try.prog w = .ok true w := by
  obtain ⟨rfl, rfl⟩ := h
  simp [go_sem, Op.equal, Op.maxDepth]
theorem eqRes_f {a0 a1 b0 b1 : Int} (h : ¬ (a0 = b0 ∧ a1 = b1)) (w : World) : (Op.equal 52 (.agg #[.int .i64 a0, .int .u32 a1]) (.agg #[.int .i64 b0, .int .u32 b1])).run Try.prog w = .ok false w := by
  by_cases h0 : a0 = b0 <;> by_cases h1 : a1 = b1 <;> first | (exfalso; exact h ⟨h0, h1⟩) | simp [go_sem, Op.equal, Op.maxDepth, h0, h1]

theorem eqPair_t {a0 a1 b0 b1 : Int} (h : a0 = b0 ∧ a1 = b1) (w : World) : (Op.equal 121 (.agg #[.int .u32 a0, .int .u32 a1]) (.agg #[.int .u32 b0, .int .u32 b1])).run Try.prog w = .ok true w := by
  obtain ⟨rfl, rfl⟩ := h
  simp [go_sem, Op.equal, Op.maxDepth]
theorem eqPair_f {a0 a1 b0 b1 : Int} (h : ¬ (a0 = b0 ∧ a1 = b1)) (w : World) : (Op.equal 121 (.agg #[.int .u32 a0, .int .u32 a1]) (.agg #[.int .u32 b0, .int .u32 b1])).run Try.prog w = .ok false w := by
  by_cases h0 : a0 = b0 <;> by_cases h1 : a1 = b1 <;> first | (exfalso; exact h ⟨h0, h1⟩) | simp [go_sem, Op.equal, Op.maxDepth, h0, h1]

set_option maxHeartbeats 1000000 in
set_option maxRecDepth 100000 in
theorem awake08_ok (w0 : World) :
    K.KC Try.prog 26 #[] w0 (fun v w' => v = .bool true ∧ K.Chg K.No w0 w') := by
  refine K.KC.mk (n := 42) Try.func26 rfl rfl [] rfl rfl ?_
  refine K.KW.seq ?_
  -- region 0 law.go:11
  refine K.KW.region ?_
  refine K.RW.q rfl rfl (K.QR.k (v := .bool false) (by kernel_rfl)) ?_
  refine K.RW.nil ?_
  refine K.thn_normal ?_
  refine K.KW.seq ?_
  -- region 1 law.go:12
  refine K.KW.region ?_
  refine K.RW.q rfl rfl (K.QR.bd [] [.slice none 0 0, .slice none 0 0, .slice none 0 0] rfl rfl (by kernel_rfl)) ?_
  refine K.RW.q rfl rfl (K.QR.bd [(0, .int .i64 6), (1, .int .u32 3), (2, .int .u32 7)] [.int .i64 6, .int .u32 3, .int .u32 7] rfl rfl (by kernel_rfl)) ?_
  refine K.RW.q rfl rfl (K.QR.bd [(0, .int .i64 6), (1, .int .u32 3), (2, .int .u32 8)] [.int .i64 6, .int .u32 3, .int .u32 8] rfl rfl (by kernel_rfl)) ?_
  refine K.RW.q rfl rfl (K.QR.bd [(0, .int .i64 8), (1, .int .u32 3)] [.int .i64 8, .int .u32 3, .int .u32 0] rfl rfl (by kernel_rfl)) ?_
  refine K.RW.l rfl (K.OW.bs rfl [(0, .agg #[.int .i64 6, .int .u32 3, .int .u32 7]), (1, .agg #[.int .i64 6, .int .u32 3, .int .u32 8]), (2, .agg #[.int .i64 8, .int .u32 3, .int .u32 0])] [.int .i64 6, .int .u32 3, .int .u32 7, .int .i64 6, .int .u32 3, .int .u32 8, .int .i64 8, .int .u32 3, .int .u32 0] rfl rfl (fun w => K.bs_run (P := Try.prog) w 50 45 3 _ _ Try.underlying50 (by kernel_rfl)) ?_) 
  intro w_1 r_2 hr_3 e_4 hs_5 b_6
  have c_7 := e_4
  have z_8 := c_7.size
  have zz_9 := e_4.size
  refine K.RW.l rfl (K.OW.call rfl [.agg #[.slice none 0 0, .slice none 0 0, .slice none 0 0], .slice (some ⟨r_2, 0, none⟩) 3 3] rfl rfl (by kernel_rfl) (run3_ok _ _ b_6) ?_) 
  rintro _ w_14 ⟨m_10, c_11, r_12, c_13, rfl, ch_15, o_16⟩
  have c_17 := c_7.no ch_15
  have z_18 := c_17.size
  have zz_19 := ch_15.size
  have f_20 := b_6.no ch_15
  have o_21 := K.Own.mono (base' := w0.heap.size) o_16 (by omega)
  refine K.RW.q rfl rfl (K.QR.k (v := .tuple #[.agg #[.slice none 0 0, .slice none 0 0, .slice m_10 0 c_11], .slice r_12 3 c_13]) (by kernel_rfl)) ?_
  refine K.RW.q rfl rfl (K.QR.k (v := .agg #[.slice none 0 0, .slice none 0 0, .slice m_10 0 c_11]) (by kernel_rfl)) ?_
  refine K.RW.q rfl rfl (K.QR.k (v := .slice r_12 3 c_13) (by kernel_rfl)) ?_
  refine K.RW.l rfl (K.OW.new (t := 42) rfl (fun r => .pointer (some ⟨r, 0, none⟩)) [.slice none 0 0, .slice none 0 0, .slice none 0 0] (by kernel_rfl) ?_) 
  intro w_22 r_23 hr_24 e_25 hs_26 b_27
  have c_28 := c_17.no e_25
  have z_29 := c_28.size
  have zz_30 := e_25.size
  have f_31 := f_20.no e_25
  have f_32 := o_21.no e_25
  refine K.RW.l rfl (K.OW.st [.slice none 0 0, .slice none 0 0, .slice m_10 0 c_11] [.slice none 0 0, .slice none 0 0, .slice m_10 0 c_11] rfl rfl rfl (by kernel_rfl) b_27 rfl (K.one_cells (by rfl)) rfl rfl ?_) 
  intro w_33 e_34 hs_35 b_36
  have c_37 := c_28.own e_34 (by omega)
  have z_38 := c_37.size
  have zz_39 := e_34.size
  have f_40 := f_31.chg e_34 (f_31.ne b_27 (by decide))
  have f_41 := f_32.chg e_34 (fun k hk hy => f_32.ne_ty b_27 (by decide) k hk hy)
  refine K.RW.q rfl rfl (K.QR.k (v := .slice r_12 3 c_13) (by kernel_rfl)) ?_
  refine K.RW.nil ?_
  refine K.thn_normal ?_
  refine K.KW.seq ?_
  -- region 2 law.go:13
  obtain ⟨b_42, rfl, gb_44, gl_45⟩ := f_41.some_ (by omega)
  refine K.KW.region ?_
  refine K.RW.q rfl rfl (K.QR.k (v := .slice (some ⟨b_42, 0, none⟩) 3 c_13) (by kernel_rfl)) ?_
  refine K.RW.q rfl rfl (K.QR.len (P := Try.prog) rfl rfl Try.underlying47) ?_
  refine K.RW.q rfl rfl (K.QR.k (v := .bool true) (by kernel_rfl)) ?_
  refine K.RW.q rfl rfl (K.QR.k (v := .bool true) (by kernel_rfl)) ?_
  refine K.RW.q rfl (by kernel_rfl) (K.QR.k (v := .slice (some ⟨b_42, 0, none⟩) 3 c_13) (by kernel_rfl)) ?_
  refine K.RW.q rfl (by kernel_rfl) (K.QR.ix (0 + 0 * 2) 2 rfl rfl rfl Try.underlying47 (by kernel_rfl) (by omega) (by first | (simp; done) | omega | (simp; omega))) ?_
  refine K.RW.q rfl (by kernel_rfl) (K.QR.ldN [.int .i64 ((([(1, 0), (3, 7), (1, 7)] : List (Int × Int)).getD 0 ((0, 0) : Int × Int)).1), .int .u32 ((([(1, 0), (3, 7), (1, 7)] : List (Int × Int)).getD 0 ((0, 0) : Int × Int)).2)] rfl rfl (by kernel_rfl) (by kernel_rfl) (K.cells (K.cl ((K.Own.rowE ((0, 0) : Int × Int) f_41 rfl (fun _ => rfl)).ld 0 (by omega) 0 _ rfl) (K.cl ((K.Own.rowE ((0, 0) : Int × Int) f_41 rfl (fun _ => rfl)).ld 0 (by omega) 1 _ rfl) K.cl0)))) ?_
  refine K.RW.q rfl (by kernel_rfl) (K.QR.bd [(0, .int .i64 1)] [.int .i64 1, .int .u32 0] rfl rfl (by kernel_rfl)) ?_
  refine K.RW.q rfl (by kernel_rfl) (K.QR.eqS (by kernel_rfl) rfl rfl rfl (eqRes_t (by decide))) ?_
  refine K.RW.q rfl rfl (K.QR.k (v := .bool true) (by kernel_rfl)) ?_
  refine K.RW.q rfl rfl (K.QR.k (v := .bool true) (by kernel_rfl)) ?_
  refine K.RW.q rfl (by kernel_rfl) (K.QR.k (v := .slice (some ⟨b_42, 0, none⟩) 3 c_13) (by kernel_rfl)) ?_
  refine K.RW.q rfl (by kernel_rfl) (K.QR.ix (0 + 1 * 2) 2 rfl rfl rfl Try.underlying47 (by kernel_rfl) (by omega) (by first | (simp; done) | omega | (simp; omega))) ?_
  refine K.RW.q rfl (by kernel_rfl) (K.QR.ldN [.int .i64 ((([(1, 0), (3, 7), (1, 7)] : List (Int × Int)).getD 1 ((0, 0) : Int × Int)).1), .int .u32 ((([(1, 0), (3, 7), (1, 7)] : List (Int × Int)).getD 1 ((0, 0) : Int × Int)).2)] rfl rfl (by kernel_rfl) (by kernel_rfl) (K.cells (K.cl ((K.Own.rowE ((0, 0) : Int × Int) f_41 rfl (fun _ => rfl)).ld 1 (by omega) 0 _ rfl) (K.cl ((K.Own.rowE ((0, 0) : Int × Int) f_41 rfl (fun _ => rfl)).ld 1 (by omega) 1 _ rfl) K.cl0)))) ?_
  refine K.RW.q rfl (by kernel_rfl) (K.QR.bd [(0, .int .i64 3), (1, .int .u32 7)] [.int .i64 3, .int .u32 7] rfl rfl (by kernel_rfl)) ?_
  refine K.RW.q rfl (by kernel_rfl) (K.QR.eqS (by kernel_rfl) rfl rfl rfl (eqRes_t (by decide))) ?_
  refine K.RW.q rfl rfl (K.QR.k (v := .bool true) (by kernel_rfl)) ?_
  refine K.RW.q rfl rfl (K.QR.k (v := .bool true) (by kernel_rfl)) ?_
  refine K.RW.q rfl (by kernel_rfl) (K.QR.k (v := .slice (some ⟨b_42, 0, none⟩) 3 c_13) (by kernel_rfl)) ?_
  refine K.RW.q rfl (by kernel_rfl) (K.QR.ix (0 + 2 * 2) 2 rfl rfl rfl Try.underlying47 (by kernel_rfl) (by omega) (by first | (simp; done) | omega | (simp; omega))) ?_
  refine K.RW.q rfl (by kernel_rfl) (K.QR.ldN [.int .i64 ((([(1, 0), (3, 7), (1, 7)] : List (Int × Int)).getD 2 ((0, 0) : Int × Int)).1), .int .u32 ((([(1, 0), (3, 7), (1, 7)] : List (Int × Int)).getD 2 ((0, 0) : Int × Int)).2)] rfl rfl (by kernel_rfl) (by kernel_rfl) (K.cells (K.cl ((K.Own.rowE ((0, 0) : Int × Int) f_41 rfl (fun _ => rfl)).ld 2 (by omega) 0 _ rfl) (K.cl ((K.Own.rowE ((0, 0) : Int × Int) f_41 rfl (fun _ => rfl)).ld 2 (by omega) 1 _ rfl) K.cl0)))) ?_
  refine K.RW.q rfl (by kernel_rfl) (K.QR.bd [(0, .int .i64 1), (1, .int .u32 7)] [.int .i64 1, .int .u32 7] rfl rfl (by kernel_rfl)) ?_
  refine K.RW.q rfl (by kernel_rfl) (K.QR.eqS (by kernel_rfl) rfl rfl rfl (eqRes_t (by decide))) ?_
  refine K.RW.q rfl rfl (K.QR.k (v := .bool true) (by kernel_rfl)) ?_
  refine K.RW.q rfl rfl (K.QR.k (v := .bool true) (by kernel_rfl)) ?_
  refine K.RW.q rfl (by kernel_rfl) (K.QR.k (v := .pointer (some ⟨r_23, 2, none⟩)) (by kernel_rfl)) ?_
  refine K.RW.q rfl (by kernel_rfl) (K.QR.ld1 (v := .slice m_10 0 c_11) rfl rfl (by kernel_rfl) (b_36.cell rfl)) ?_
  refine K.RW.q rfl (by kernel_rfl) (K.QR.len (P := Try.prog) rfl rfl Try.underlying40) ?_
  refine K.RW.q rfl (by kernel_rfl) (K.QR.k (v := .bool true) (by kernel_rfl)) ?_
  refine K.RW.q rfl rfl (K.QR.k (v := .bool true) (by kernel_rfl)) ?_
  refine K.RW.q rfl rfl (K.QR.k (v := .bool true) (by kernel_rfl)) ?_
  refine K.RW.nil ?_
  refine K.thn_normal ?_
  refine K.KW.ret ?_
  refine ⟨.inr rfl, rfl, (.bool true), K.res1 rfl rfl, ?_⟩
  exact ⟨rfl, c_37⟩

def upTo {α : Type} (d : α) (xs ys : List α) (k : Nat) : Prop := ∀ j, j < k → xs.getD j d = ys.getD j d
theorem upTo_zero {α : Type} (d : α) (xs ys : List α) : upTo d xs ys 0 := fun _ h => by omega
theorem upTo_succ {α : Type} {d : α} {xs ys : List α} {k : Nat} (h : upTo d xs ys k) (he : xs.getD k d = ys.getD k d) : upTo d xs ys (k + 1) := fun j hj => by
  rcases Nat.lt_or_ge j k with h' | h'
  · exact h j h'
  · rw [show j = k by omega]; exact he
theorem upTo_eq {α : Type} {d : α} {xs ys : List α} (hl : xs.length = ys.length) {k : Nat} (hk : k = xs.length) (h : upTo d xs ys k) : xs = ys := by
  subst hk
  apply List.ext_getElem hl
  intro j h1 h2
  have := h j h1
  simpa [h1, h2] using this
theorem len_ne {α : Type} {xs ys : List α} (h : ¬ ((xs.length : Nat) : Int) = ((ys.length : Nat) : Int)) : ¬ xs = ys := fun e => h (by rw [e])
theorem get_neU {xs ys : List Int} {k : Nat} (h : ¬ xs.getD k 0 = ys.getD k 0) : ¬ xs = ys := fun e => h (by rw [e])
theorem get_neP {xs ys : List PairM} {k : Nat} (h : ¬ ((xs.getD k p0).key = (ys.getD k p0).key ∧ (xs.getD k p0).val = (ys.getD k p0).val)) : ¬ xs = ys := fun e => h (by rw [e]; exact ⟨rfl, rfl⟩)
theorem pair_eq {p q : PairM} (h : p.key = q.key ∧ p.val = q.val) : p = q := by cases p; cases q; simp_all

set_option maxHeartbeats 1000000 in
set_option maxRecDepth 100000 in
theorem eqU_ok (a a' : Option Addr) (cap cap' : Nat) (xs ys : List Int) (w0 : World) (hm : xs.length ≤ 1000000) (hx : RU32 w0 a xs) (hy : RU32 w0 a' ys) :
    K.KC Try.prog 75 #[.slice a xs.length cap, .slice a' ys.length cap'] w0 (fun v w' => v = .bool (decide (xs = ys)) ∧ K.Chg K.No w0 w') := by
  refine K.KC.mk (n := 26) Try.func75 rfl rfl [.slice a xs.length cap, .slice a' ys.length cap'] rfl rfl ?_
  refine K.KW.seq ?_
  -- region 0 slices.go:20
  refine K.KW.region ?_
  refine K.RW.q rfl rfl (K.QR.k (v := .bool false) (by kernel_rfl)) ?_
  refine K.RW.nil ?_
  refine K.thn_normal ?_
  refine K.KW.seq ?_
  refine K.KW.seq ?_
  -- region 1 slices.go:21
  refine K.KW.region ?_
  refine K.RW.q rfl rfl (K.QR.k (v := .slice a xs.length cap) (by kernel_rfl)) ?_
  refine K.RW.q rfl rfl (K.QR.len (P := Try.prog) rfl rfl Try.underlying39) ?_
  refine K.RW.q rfl rfl (K.QR.k (v := .slice a' ys.length cap') (by kernel_rfl)) ?_
  refine K.RW.q rfl rfl (K.QR.len (P := Try.prog) rfl rfl Try.underlying39) ?_
  by_cases h_1 : (((xs.length : Nat) : Int) : Int) = (((ys.length : Nat) : Int) : Int)
  ·  -- yes
    refine K.RW.q rfl rfl (K.QR.nice (v := .bool ((((xs.length : Nat) : Int) : Int) != (((ys.length : Nat) : Int) : Int))) (by kernel_rfl) (congrArg Value.bool (bne_eq_false_iff_eq.2 h_1))) ?_
    refine K.RW.nil ?_
    refine K.thn_normal ?_
    refine K.KW.ifF rfl ?_
    refine K.KW.skip ?_
    refine K.thn_normal ?_
    refine K.KW.seq ?_
    refine K.KW.seq ?_
    -- region 3 slices.go:24
    refine K.KW.region ?_
    refine K.RW.q rfl rfl (K.QR.k (v := .slice a xs.length cap) (by kernel_rfl)) ?_
    refine K.RW.q rfl rfl (K.QR.len (P := Try.prog) rfl rfl Try.underlying39) ?_
    refine K.RW.q rfl rfl (K.QR.k (v := .int .i64 0) (by kernel_rfl)) ?_
    refine K.RW.nil ?_
    refine K.thn_normal ?_
    refine K.KW.block ?_
    refine K.KW.loop (fun m_ F_ w_2 => ∃ (k : Nat), m_ = xs.length - k ∧ K.Sl F_ [(0, .slice a xs.length cap), (1, .slice a' ys.length cap'), (12, .int .i64 ((xs.length : Nat) : Int)), (13, .int .i64 ((k : Nat) : Int)), (26, undef)] ∧ k ≤ xs.length ∧ xs.length = ys.length ∧ upTo 0 xs ys k ∧ K.Chg K.No w0 w_2) ((fun (k : Nat) => xs.length - k) 0) ?_ ?_
    · -- the loop begins
      exact ⟨0, rfl, ⟨by rfl, by rfl, by rfl, by rfl, by rfl, trivial⟩, (by omega), (by omega), (upTo_zero _ _ _), (K.Chg.refl _)⟩
    · -- a round
      intro m_3 F_4 w_2 hI
      obtain ⟨k, rfl, sl_5, p_7, p_8, p_9, c_6⟩ := hI
      rw [← K.Sl.puts sl_5]; clear sl_5
      have z_10 := c_6.size
      refine K.KW.seq ?_
      -- region 4 slices.go:24
      refine K.KW.region ?_
      by_cases h_11 : (((k : Nat) : Int) : Int) < (((xs.length : Nat) : Int) : Int)
      ·  -- yes
        refine K.RW.q rfl rfl (K.QR.nice (v := .bool (decide ((((k : Nat) : Int) : Int) < (((xs.length : Nat) : Int) : Int)))) (by kernel_rfl) (congrArg Value.bool (decide_eq_true h_11))) ?_
        refine K.RW.nil ?_
        refine K.thn_normal ?_
        refine K.KW.seq ?_
        refine K.KW.ifT rfl ?_
        refine K.KW.skip ?_
        refine K.thn_normal ?_
        refine K.KW.seq ?_
        refine K.KW.block ?_
        refine K.KW.seq ?_
        -- region 5 slices.go:24
        refine K.KW.region ?_
        refine K.RW.q rfl rfl (K.QR.k (v := .int .i64 ((k : Nat) : Int)) (by kernel_rfl)) ?_
        refine K.RW.q rfl rfl (K.QR.k (v := .int .i64 ((k : Nat) : Int)) (by kernel_rfl)) ?_
        refine K.RW.nil ?_
        refine K.thn_normal ?_
        refine K.KW.seq ?_
        -- region 6 slices.go:25
        obtain ⟨b_12, of_13, rfl, _⟩ := hx.at_ (by omega)
        obtain ⟨b_14, of_15, rfl, _⟩ := hy.at_ (by omega)
        refine K.KW.drawn (fun w => K.Chg K.No w0 w) (by kernel_rfl) ?_
        intro w_16 e_17 hs_18
        have c_20 := c_6.no e_17
        have z_21 := c_20.size
        have zz_22 := e_17.size
        have hS_19 : (fun w => K.Chg K.No w0 w) w_16 := c_20
        refine K.DW.q 0 (by kernel_rfl) rfl rfl (by kernel_rfl) rfl (fun w hS => K.QR.k (v := .slice (some ⟨b_12, of_13, none⟩) xs.length cap) (by kernel_rfl)) hS_19 ?_
        refine K.DW.q 1 (by kernel_rfl) rfl rfl (by kernel_rfl) rfl (fun w hS => K.QR.k (v := .int .i64 ((k : Nat) : Int)) (by kernel_rfl)) hS_19 ?_
        refine K.DW.q 2 (by kernel_rfl) rfl rfl (by kernel_rfl) rfl (fun w hS => K.QR.ix (of_13 + k * 1) 1 rfl rfl rfl Try.underlying39 (by kernel_rfl) (by omega) (by first | (simp; done) | omega | (simp; omega))) hS_19 ?_
        refine K.DW.q 3 (by kernel_rfl) rfl rfl (by kernel_rfl) rfl (fun w hS => K.QR.ld1 (v := .int .u32 (xs.getD k 0)) rfl rfl (by kernel_rfl) (hS.cell (hx.ld k (by omega) 0 _ rfl) id)) hS_19 ?_
        refine K.DW.q 4 (by kernel_rfl) rfl rfl (by kernel_rfl) rfl (fun w hS => K.QR.k (v := .slice (some ⟨b_14, of_15, none⟩) ys.length cap') (by kernel_rfl)) hS_19 ?_
        refine K.DW.l 5 rfl (by kernel_rfl) rfl (K.OW.q rfl (K.QR.k (v := .int .i64 ((k : Nat) : Int)) (by kernel_rfl)) ?_)
        refine ⟨.inl hS_19, ?_⟩
        refine K.DW.l 6 rfl (by kernel_rfl) rfl (K.OW.q rfl (K.QR.ix (of_15 + k * 1) 1 rfl rfl rfl Try.underlying39 (by kernel_rfl) (by omega) (by first | (simp; done) | omega | (simp; omega))) ?_)
        refine ⟨.inl hS_19, ?_⟩
        refine K.DW.l 7 rfl (by kernel_rfl) rfl (K.OW.q rfl (K.QR.ld1 (v := .int .u32 (ys.getD k 0)) rfl rfl (by kernel_rfl) (c_20.cell (hy.ld k (by omega) 0 _ rfl) id)) ?_)
        refine ⟨.inl hS_19, ?_⟩
        by_cases h_23 : (xs.getD k 0 : Int) = (ys.getD k 0 : Int)
        ·  -- yes
          refine K.DW.l 8 rfl (by kernel_rfl) rfl (K.OW.q rfl (K.QR.nice (v := .bool ((xs.getD k 0 : Int) != (ys.getD k 0 : Int))) (by kernel_rfl) (congrArg Value.bool (bne_eq_false_iff_eq.2 h_23))) ?_)
          refine ⟨.inl hS_19, ?_⟩
          refine K.DW.done (by kernel_rfl) ?_
          refine K.thn_normal ?_
          refine K.KW.ifF rfl ?_
          refine K.KW.skip ?_
          refine K.blk_normal ?_
          refine K.thn_normal ?_
          -- region 8 slices.go:24
          refine K.KW.region ?_
          refine K.RW.q rfl rfl (K.QR.n64 ((((k : Nat) : Int) : Int) + (1 : Int)) ((k + 1 : Nat) : Int) (by kernel_rfl) (by omega)) ?_
          refine K.RW.q rfl rfl (K.QR.k (v := .int .i64 ((k + 1 : Nat) : Int)) (by kernel_rfl)) ?_
          refine K.RW.nil ?_
          refine K.thn_normal ?_
          refine ⟨_, ?_, k + 1, rfl, ⟨by rfl, by rfl, by rfl, by rfl, by rfl, trivial⟩, (by omega), (by omega), (upTo_succ (by assumption) (by assumption)), c_20⟩
          omega
        ·  -- no
          refine K.DW.l 8 rfl (by kernel_rfl) rfl (K.OW.q rfl (K.QR.nice (v := .bool ((xs.getD k 0 : Int) != (ys.getD k 0 : Int))) (by kernel_rfl) (congrArg Value.bool (bne_iff_ne.2 h_23))) ?_)
          refine ⟨.inl hS_19, ?_⟩
          refine K.DW.done (by kernel_rfl) ?_
          refine K.thn_normal ?_
          refine K.KW.ifT rfl ?_
          refine K.KW.seq ?_
          -- region 7 slices.go:26
          refine K.KW.region ?_
          refine K.RW.q rfl rfl (K.QR.k (v := .bool false) (by kernel_rfl)) ?_
          refine K.RW.nil ?_
          refine K.thn_normal ?_
          refine K.KW.ret ?_
          refine K.blk_ret ?_
          refine K.thn_ret ?_
          refine K.thn_ret ?_
          refine K.blk_ret ?_
          refine K.thn_ret ?_
          refine ⟨.inr rfl, rfl, (.bool false), K.res1 rfl rfl, ?_⟩
          exact ⟨congrArg Value.bool (by first | exact (decide_eq_true (upTo_eq (d := 0) (xs := xs) (ys := ys) (k := k) (by assumption) (by omega) (by assumption))).symm | exact (decide_eq_false (len_ne (by assumption))).symm | exact (decide_eq_false (get_neU (by assumption))).symm), c_20⟩
      ·  -- no
        refine K.RW.q rfl rfl (K.QR.nice (v := .bool (decide ((((k : Nat) : Int) : Int) < (((xs.length : Nat) : Int) : Int)))) (by kernel_rfl) (congrArg Value.bool (decide_eq_false h_11))) ?_
        refine K.RW.nil ?_
        refine K.thn_normal ?_
        refine K.KW.seq ?_
        refine K.KW.ifF rfl ?_
        refine K.KW.exit ?_
        refine K.thn_exit ?_
        refine K.thn_exit ?_
        refine K.blk_hit ?_
        refine K.thn_normal ?_
        refine K.KW.seq ?_
        -- region 9 slices.go:29
        refine K.KW.region ?_
        refine K.RW.q rfl rfl (K.QR.k (v := .bool true) (by kernel_rfl)) ?_
        refine K.RW.nil ?_
        refine K.thn_normal ?_
        refine K.KW.ret ?_
        refine ⟨.inr rfl, rfl, (.bool true), K.res1 rfl rfl, ?_⟩
        exact ⟨congrArg Value.bool (by first | exact (decide_eq_true (upTo_eq (d := 0) (xs := xs) (ys := ys) (k := k) (by assumption) (by omega) (by assumption))).symm | exact (decide_eq_false (len_ne (by assumption))).symm | exact (decide_eq_false (get_neU (by assumption))).symm), c_6⟩
  ·  -- no
    refine K.RW.q rfl rfl (K.QR.nice (v := .bool ((((xs.length : Nat) : Int) : Int) != (((ys.length : Nat) : Int) : Int))) (by kernel_rfl) (congrArg Value.bool (bne_iff_ne.2 h_1))) ?_
    refine K.RW.nil ?_
    refine K.thn_normal ?_
    refine K.KW.ifT rfl ?_
    refine K.KW.seq ?_
    -- region 2 slices.go:22
    refine K.KW.region ?_
    refine K.RW.q rfl rfl (K.QR.k (v := .bool false) (by kernel_rfl)) ?_
    refine K.RW.nil ?_
    refine K.thn_normal ?_
    refine K.KW.ret ?_
    refine K.thn_ret ?_
    refine ⟨.inr rfl, rfl, (.bool false), K.res1 rfl rfl, ?_⟩
    exact ⟨congrArg Value.bool (by first | exact (decide_eq_true (upTo_eq (d := 0) (xs := xs) (ys := ys) (k := k) (by assumption) (by omega) (by assumption))).symm | exact (decide_eq_false (len_ne (by assumption))).symm | exact (decide_eq_false (get_neU (by assumption))).symm), (K.Chg.refl _)⟩

set_option maxHeartbeats 1000000 in
set_option maxRecDepth 100000 in
theorem eqP_ok (a a' : Option Addr) (cap cap' : Nat) (xs ys : List PairM) (w0 : World) (hm : xs.length ≤ 1000000) (hx : RPr w0 a xs) (hy : RPr w0 a' ys) :
    K.KC Try.prog 76 #[.slice a xs.length cap, .slice a' ys.length cap'] w0 (fun v w' => v = .bool (decide (xs = ys)) ∧ K.Chg K.No w0 w') := by
  refine K.KC.mk (n := 26) Try.func76 rfl rfl [.slice a xs.length cap, .slice a' ys.length cap'] rfl rfl ?_
  refine K.KW.seq ?_
  -- region 0 slices.go:20
  refine K.KW.region ?_
  refine K.RW.q rfl rfl (K.QR.k (v := .bool false) (by kernel_rfl)) ?_
  refine K.RW.nil ?_
  refine K.thn_normal ?_
  refine K.KW.seq ?_
  refine K.KW.seq ?_
  -- region 1 slices.go:21
  refine K.KW.region ?_
  refine K.RW.q rfl rfl (K.QR.k (v := .slice a xs.length cap) (by kernel_rfl)) ?_
  refine K.RW.q rfl rfl (K.QR.len (P := Try.prog) rfl rfl Try.underlying40) ?_
  refine K.RW.q rfl rfl (K.QR.k (v := .slice a' ys.length cap') (by kernel_rfl)) ?_
  refine K.RW.q rfl rfl (K.QR.len (P := Try.prog) rfl rfl Try.underlying40) ?_
  by_cases h_1 : (((xs.length : Nat) : Int) : Int) = (((ys.length : Nat) : Int) : Int)
  ·  -- yes
    refine K.RW.q rfl rfl (K.QR.nice (v := .bool ((((xs.length : Nat) : Int) : Int) != (((ys.length : Nat) : Int) : Int))) (by kernel_rfl) (congrArg Value.bool (bne_eq_false_iff_eq.2 h_1))) ?_
    refine K.RW.nil ?_
    refine K.thn_normal ?_
    refine K.KW.ifF rfl ?_
    refine K.KW.skip ?_
    refine K.thn_normal ?_
    refine K.KW.seq ?_
    refine K.KW.seq ?_
    -- region 3 slices.go:24
    refine K.KW.region ?_
    refine K.RW.q rfl rfl (K.QR.k (v := .slice a xs.length cap) (by kernel_rfl)) ?_
    refine K.RW.q rfl rfl (K.QR.len (P := Try.prog) rfl rfl Try.underlying40) ?_
    refine K.RW.q rfl rfl (K.QR.k (v := .int .i64 0) (by kernel_rfl)) ?_
    refine K.RW.nil ?_
    refine K.thn_normal ?_
    refine K.KW.block ?_
    refine K.KW.loop (fun m_ F_ w_2 => ∃ (k : Nat), m_ = xs.length - k ∧ K.Sl F_ [(0, .slice a xs.length cap), (1, .slice a' ys.length cap'), (12, .int .i64 ((xs.length : Nat) : Int)), (13, .int .i64 ((k : Nat) : Int)), (26, undef)] ∧ k ≤ xs.length ∧ xs.length = ys.length ∧ upTo p0 xs ys k ∧ K.Chg K.No w0 w_2) ((fun (k : Nat) => xs.length - k) 0) ?_ ?_
    · -- the loop begins
      exact ⟨0, rfl, ⟨by rfl, by rfl, by rfl, by rfl, by rfl, trivial⟩, (by omega), (by omega), (upTo_zero _ _ _), (K.Chg.refl _)⟩
    · -- a round
      intro m_3 F_4 w_2 hI
      obtain ⟨k, rfl, sl_5, p_7, p_8, p_9, c_6⟩ := hI
      rw [← K.Sl.puts sl_5]; clear sl_5
      have z_10 := c_6.size
      refine K.KW.seq ?_
      -- region 4 slices.go:24
      refine K.KW.region ?_
      by_cases h_11 : (((k : Nat) : Int) : Int) < (((xs.length : Nat) : Int) : Int)
      ·  -- yes
        refine K.RW.q rfl rfl (K.QR.nice (v := .bool (decide ((((k : Nat) : Int) : Int) < (((xs.length : Nat) : Int) : Int)))) (by kernel_rfl) (congrArg Value.bool (decide_eq_true h_11))) ?_
        refine K.RW.nil ?_
        refine K.thn_normal ?_
        refine K.KW.seq ?_
        refine K.KW.ifT rfl ?_
        refine K.KW.skip ?_
        refine K.thn_normal ?_
        refine K.KW.seq ?_
        refine K.KW.block ?_
        refine K.KW.seq ?_
        -- region 5 slices.go:24
        refine K.KW.region ?_
        refine K.RW.q rfl rfl (K.QR.k (v := .int .i64 ((k : Nat) : Int)) (by kernel_rfl)) ?_
        refine K.RW.q rfl rfl (K.QR.k (v := .int .i64 ((k : Nat) : Int)) (by kernel_rfl)) ?_
        refine K.RW.nil ?_
        refine K.thn_normal ?_
        refine K.KW.seq ?_
        -- region 6 slices.go:25
        obtain ⟨b_12, of_13, rfl, _⟩ := hx.at_ (by omega)
        obtain ⟨b_14, of_15, rfl, _⟩ := hy.at_ (by omega)
        refine K.KW.drawn (fun w => K.Chg K.No w0 w) (by kernel_rfl) ?_
        intro w_16 e_17 hs_18
        have c_20 := c_6.no e_17
        have z_21 := c_20.size
        have zz_22 := e_17.size
        have hS_19 : (fun w => K.Chg K.No w0 w) w_16 := c_20
        refine K.DW.q 0 (by kernel_rfl) rfl rfl (by kernel_rfl) rfl (fun w hS => K.QR.k (v := .slice (some ⟨b_12, of_13, none⟩) xs.length cap) (by kernel_rfl)) hS_19 ?_
        refine K.DW.q 1 (by kernel_rfl) rfl rfl (by kernel_rfl) rfl (fun w hS => K.QR.k (v := .int .i64 ((k : Nat) : Int)) (by kernel_rfl)) hS_19 ?_
        refine K.DW.q 2 (by kernel_rfl) rfl rfl (by kernel_rfl) rfl (fun w hS => K.QR.ix (of_13 + k * 2) 2 rfl rfl rfl Try.underlying40 (by kernel_rfl) (by omega) (by first | (simp; done) | omega | (simp; omega))) hS_19 ?_
        refine K.DW.q 3 (by kernel_rfl) rfl rfl (by kernel_rfl) rfl (fun w hS => K.QR.ldN [.int .u32 ((xs.getD k p0).key), .int .u32 ((xs.getD k p0).val)] rfl rfl (by kernel_rfl) (by kernel_rfl) (K.cells (K.cl (hS.cell (hx.ld k (by omega) 0 _ rfl) id) (K.cl (hS.cell (hx.ld k (by omega) 1 _ rfl) id) K.cl0)))) hS_19 ?_
        refine K.DW.q 4 (by kernel_rfl) rfl rfl (by kernel_rfl) rfl (fun w hS => K.QR.k (v := .slice (some ⟨b_14, of_15, none⟩) ys.length cap') (by kernel_rfl)) hS_19 ?_
        refine K.DW.l 5 rfl (by kernel_rfl) rfl (K.OW.q rfl (K.QR.k (v := .int .i64 ((k : Nat) : Int)) (by kernel_rfl)) ?_)
        refine ⟨.inl hS_19, ?_⟩
        refine K.DW.l 6 rfl (by kernel_rfl) rfl (K.OW.q rfl (K.QR.ix (of_15 + k * 2) 2 rfl rfl rfl Try.underlying40 (by kernel_rfl) (by omega) (by first | (simp; done) | omega | (simp; omega))) ?_)
        refine ⟨.inl hS_19, ?_⟩
        refine K.DW.l 7 rfl (by kernel_rfl) rfl (K.OW.q rfl (K.QR.ldN [.int .u32 ((ys.getD k p0).key), .int .u32 ((ys.getD k p0).val)] rfl rfl (by kernel_rfl) (by kernel_rfl) (K.cells (K.cl (c_20.cell (hy.ld k (by omega) 0 _ rfl) id) (K.cl (c_20.cell (hy.ld k (by omega) 1 _ rfl) id) K.cl0)))) ?_)
        refine ⟨.inl hS_19, ?_⟩
        by_cases h_23 : ((xs.getD k p0).key : Int) = (ys.getD k p0).key ∧ ((xs.getD k p0).val : Int) = (ys.getD k p0).val
        ·  -- yes
          refine K.DW.l 8 rfl (by kernel_rfl) rfl (K.OW.q rfl (K.QR.neS (by kernel_rfl) rfl rfl rfl (eqPair_t h_23)) ?_)
          refine ⟨.inl hS_19, ?_⟩
          refine K.DW.done (by kernel_rfl) ?_
          refine K.thn_normal ?_
          refine K.KW.ifF rfl ?_
          refine K.KW.skip ?_
          refine K.blk_normal ?_
          refine K.thn_normal ?_
          -- region 8 slices.go:24
          refine K.KW.region ?_
          refine K.RW.q rfl rfl (K.QR.n64 ((((k : Nat) : Int) : Int) + (1 : Int)) ((k + 1 : Nat) : Int) (by kernel_rfl) (by omega)) ?_
          refine K.RW.q rfl rfl (K.QR.k (v := .int .i64 ((k + 1 : Nat) : Int)) (by kernel_rfl)) ?_
          refine K.RW.nil ?_
          refine K.thn_normal ?_
          refine ⟨_, ?_, k + 1, rfl, ⟨by rfl, by rfl, by rfl, by rfl, by rfl, trivial⟩, (by omega), (by omega), (upTo_succ (by assumption) (by exact pair_eq (by assumption))), c_20⟩
          omega
        ·  -- no
          refine K.DW.l 8 rfl (by kernel_rfl) rfl (K.OW.q rfl (K.QR.neS (by kernel_rfl) rfl rfl rfl (eqPair_f h_23)) ?_)
          refine ⟨.inl hS_19, ?_⟩
          refine K.DW.done (by kernel_rfl) ?_
          refine K.thn_normal ?_
          refine K.KW.ifT rfl ?_
          refine K.KW.seq ?_
          -- region 7 slices.go:26
          refine K.KW.region ?_
          refine K.RW.q rfl rfl (K.QR.k (v := .bool false) (by kernel_rfl)) ?_
          refine K.RW.nil ?_
          refine K.thn_normal ?_
          refine K.KW.ret ?_
          refine K.blk_ret ?_
          refine K.thn_ret ?_
          refine K.thn_ret ?_
          refine K.blk_ret ?_
          refine K.thn_ret ?_
          refine ⟨.inr rfl, rfl, (.bool false), K.res1 rfl rfl, ?_⟩
          exact ⟨congrArg Value.bool (by first | exact (decide_eq_true (upTo_eq (d := p0) (xs := xs) (ys := ys) (k := k) (by assumption) (by omega) (by assumption))).symm | exact (decide_eq_false (len_ne (by assumption))).symm | exact (decide_eq_false (get_neP (by assumption))).symm), c_20⟩
      ·  -- no
        refine K.RW.q rfl rfl (K.QR.nice (v := .bool (decide ((((k : Nat) : Int) : Int) < (((xs.length : Nat) : Int) : Int)))) (by kernel_rfl) (congrArg Value.bool (decide_eq_false h_11))) ?_
        refine K.RW.nil ?_
        refine K.thn_normal ?_
        refine K.KW.seq ?_
        refine K.KW.ifF rfl ?_
        refine K.KW.exit ?_
        refine K.thn_exit ?_
        refine K.thn_exit ?_
        refine K.blk_hit ?_
        refine K.thn_normal ?_
        refine K.KW.seq ?_
        -- region 9 slices.go:29
        refine K.KW.region ?_
        refine K.RW.q rfl rfl (K.QR.k (v := .bool true) (by kernel_rfl)) ?_
        refine K.RW.nil ?_
        refine K.thn_normal ?_
        refine K.KW.ret ?_
        refine ⟨.inr rfl, rfl, (.bool true), K.res1 rfl rfl, ?_⟩
        exact ⟨congrArg Value.bool (by first | exact (decide_eq_true (upTo_eq (d := p0) (xs := xs) (ys := ys) (k := k) (by assumption) (by omega) (by assumption))).symm | exact (decide_eq_false (len_ne (by assumption))).symm | exact (decide_eq_false (get_neP (by assumption))).symm), c_6⟩
  ·  -- no
    refine K.RW.q rfl rfl (K.QR.nice (v := .bool ((((xs.length : Nat) : Int) : Int) != (((ys.length : Nat) : Int) : Int))) (by kernel_rfl) (congrArg Value.bool (bne_iff_ne.2 h_1))) ?_
    refine K.RW.nil ?_
    refine K.thn_normal ?_
    refine K.KW.ifT rfl ?_
    refine K.KW.seq ?_
    -- region 2 slices.go:22
    refine K.KW.region ?_
    refine K.RW.q rfl rfl (K.QR.k (v := .bool false) (by kernel_rfl)) ?_
    refine K.RW.nil ?_
    refine K.thn_normal ?_
    refine K.KW.ret ?_
    refine K.thn_ret ?_
    refine ⟨.inr rfl, rfl, (.bool false), K.res1 rfl rfl, ?_⟩
    exact ⟨congrArg Value.bool (by first | exact (decide_eq_true (upTo_eq (d := p0) (xs := xs) (ys := ys) (k := k) (by assumption) (by omega) (by assumption))).symm | exact (decide_eq_false (len_ne (by assumption))).symm | exact (decide_eq_false (get_neP (by assumption))).symm), (K.Chg.refl _)⟩

set_option maxHeartbeats 1000000 in
set_option maxRecDepth 100000 in
theorem same8_ok (q s m q' s' m' : Option Addr) (cq cs cm cq' cs' cm' : Nat) (qa sa qb sb : List Int) (ma mb : List PairM) (w0 : World) (h1 : qa.length ≤ 1000) (h2 : sa.length ≤ 1000) (h3 : ma.length ≤ 1000) (x1 : RU32 w0 q qa) (x2 : RU32 w0 s sa) (x3 : RPr w0 m ma) (y1 : RU32 w0 q' qb) (y2 : RU32 w0 s' sb) (y3 : RPr w0 m' mb) :
    K.KC Try.prog 35 #[.agg #[.slice q qa.length cq, .slice s sa.length cs, .slice m ma.length cm], .agg #[.slice q' qb.length cq', .slice s' sb.length cs', .slice m' mb.length cm']] w0 (fun v w' => v = .bool (decide (qa = qb ∧ sa = sb ∧ ma = mb)) ∧ K.Chg K.No w0 w') := by
  refine K.KC.mk (n := 24) Try.func35 rfl rfl [.agg #[.slice q qa.length cq, .slice s sa.length cs, .slice m ma.length cm], .agg #[.slice q' qb.length cq', .slice s' sb.length cs', .slice m' mb.length cm']] rfl rfl ?_
  refine K.KW.seq ?_
  -- region 0 model.go:134
  refine K.KW.region ?_
  refine K.RW.l rfl (K.OW.new (t := 42) rfl (fun r => .pointer (some ⟨r, 0, none⟩)) [.slice q qa.length cq, .slice s sa.length cs, .slice m ma.length cm] (by kernel_rfl) ?_) 
  intro w_1 r_2 hr_3 e_4 hs_5 b_6
  have c_7 := e_4
  have z_8 := c_7.size
  have zz_9 := e_4.size
  refine K.RW.l rfl (K.OW.new (t := 42) rfl (fun r => .pointer (some ⟨r, 0, none⟩)) [.slice q' qb.length cq', .slice s' sb.length cs', .slice m' mb.length cm'] (by kernel_rfl) ?_) 
  intro w_10 r_11 hr_12 e_13 hs_14 b_15
  have c_16 := c_7.no e_13
  have z_17 := c_16.size
  have zz_18 := e_13.size
  have f_19 := b_6.no e_13
  refine K.RW.q rfl rfl (K.QR.k (v := .bool false) (by kernel_rfl)) ?_
  refine K.RW.nil ?_
  refine K.thn_normal ?_
  refine K.KW.seq ?_
  -- region 1 model.go:135
  refine K.KW.region ?_
  refine K.RW.q rfl rfl (K.QR.k (v := .pointer (some ⟨r_2, 0, none⟩)) (by kernel_rfl)) ?_
  refine K.RW.q rfl rfl (K.QR.ld1 (v := .slice q qa.length cq) rfl rfl (by kernel_rfl) (f_19.cell rfl)) ?_
  refine K.RW.q rfl rfl (K.QR.k (v := .pointer (some ⟨r_11, 0, none⟩)) (by kernel_rfl)) ?_
  refine K.RW.q rfl rfl (K.QR.ld1 (v := .slice q' qb.length cq') rfl rfl (by kernel_rfl) (b_15.cell rfl)) ?_
  refine K.RW.l rfl (K.OW.call rfl [.slice q qa.length cq, .slice q' qb.length cq'] rfl rfl (by kernel_rfl) (eqU_ok _ _ _ _ qa qb _ (by omega) (x1.no c_16) (y1.no c_16)) ?_) 
  rintro v_23 w_21 ⟨hv_22, c_20⟩
  have c_24 := c_16.no c_20
  have z_25 := c_24.size
  have zz_26 := c_20.size
  have f_27 := f_19.no c_20
  have f_28 := b_15.no c_20
  rcases Bool.eq_false_or_eq_true (decide (qa = qb)) with hb_29 | hb_29
  ·  -- True
    rw [hb_29] at hv_22; subst hv_22
    have hp_30 := of_decide_eq_true hb_29
    refine K.RW.q rfl rfl (K.QR.k (v := .bool true) (by kernel_rfl)) ?_
    refine K.RW.q rfl (by kernel_rfl) (K.QR.k (v := .pointer (some ⟨r_2, 1, none⟩)) (by kernel_rfl)) ?_
    refine K.RW.q rfl (by kernel_rfl) (K.QR.ld1 (v := .slice s sa.length cs) rfl rfl (by kernel_rfl) (f_27.cell rfl)) ?_
    refine K.RW.q rfl (by kernel_rfl) (K.QR.k (v := .pointer (some ⟨r_11, 1, none⟩)) (by kernel_rfl)) ?_
    refine K.RW.q rfl (by kernel_rfl) (K.QR.ld1 (v := .slice s' sb.length cs') rfl rfl (by kernel_rfl) (f_28.cell rfl)) ?_
    refine K.RW.l (by kernel_rfl) (K.OW.call rfl [.slice s sa.length cs, .slice s' sb.length cs'] rfl rfl (by kernel_rfl) (eqU_ok _ _ _ _ sa sb _ (by omega) (x2.no c_24) (y2.no c_24)) ?_) 
    rintro v_34 w_32 ⟨hv_33, c_31⟩
    have c_35 := c_24.no c_31
    have z_36 := c_35.size
    have zz_37 := c_31.size
    have f_38 := f_27.no c_31
    have f_39 := f_28.no c_31
    rcases Bool.eq_false_or_eq_true (decide (sa = sb)) with hb_40 | hb_40
    ·  -- True
      rw [hb_40] at hv_33; subst hv_33
      have hp_41 := of_decide_eq_true hb_40
      refine K.RW.q rfl rfl (K.QR.k (v := .bool true) (by kernel_rfl)) ?_
      refine K.RW.q rfl rfl (K.QR.k (v := .bool true) (by kernel_rfl)) ?_
      refine K.RW.q rfl (by kernel_rfl) (K.QR.k (v := .pointer (some ⟨r_2, 2, none⟩)) (by kernel_rfl)) ?_
      refine K.RW.q rfl (by kernel_rfl) (K.QR.ld1 (v := .slice m ma.length cm) rfl rfl (by kernel_rfl) (f_38.cell rfl)) ?_
      refine K.RW.q rfl (by kernel_rfl) (K.QR.k (v := .pointer (some ⟨r_11, 2, none⟩)) (by kernel_rfl)) ?_
      refine K.RW.q rfl (by kernel_rfl) (K.QR.ld1 (v := .slice m' mb.length cm') rfl rfl (by kernel_rfl) (f_39.cell rfl)) ?_
      refine K.RW.l (by kernel_rfl) (K.OW.call rfl [.slice m ma.length cm, .slice m' mb.length cm'] rfl rfl (by kernel_rfl) (eqP_ok _ _ _ _ ma mb _ (by omega) (x3.no c_35) (y3.no c_35)) ?_) 
      rintro v_45 w_43 ⟨hv_44, c_42⟩
      have c_46 := c_35.no c_42
      have z_47 := c_46.size
      have zz_48 := c_42.size
      have f_49 := f_38.no c_42
      have f_50 := f_39.no c_42
      rcases Bool.eq_false_or_eq_true (decide (ma = mb)) with hb_51 | hb_51
      ·  -- True
        rw [hb_51] at hv_44; subst hv_44
        have hp_52 := of_decide_eq_true hb_51
        refine K.RW.q rfl rfl (K.QR.k (v := .bool true) (by kernel_rfl)) ?_
        refine K.RW.q rfl rfl (K.QR.k (v := .bool true) (by kernel_rfl)) ?_
        refine K.RW.nil ?_
        refine K.thn_normal ?_
        refine K.KW.ret ?_
        refine ⟨.inr rfl, rfl, (.bool true), K.res1 rfl rfl, ?_⟩
        exact ⟨congrArg Value.bool (by first | exact (decide_eq_true ⟨by assumption, by assumption, by assumption⟩).symm | exact (decide_eq_false (fun h => absurd h.1 (by assumption))).symm | exact (decide_eq_false (fun h => absurd h.2.1 (by assumption))).symm | exact (decide_eq_false (fun h => absurd h.2.2 (by assumption))).symm), c_46⟩
      ·  -- False
        rw [hb_51] at hv_44; subst hv_44
        have hp_53 := of_decide_eq_false hb_51
        refine K.RW.q rfl rfl (K.QR.k (v := .bool false) (by kernel_rfl)) ?_
        refine K.RW.q rfl rfl (K.QR.k (v := .bool false) (by kernel_rfl)) ?_
        refine K.RW.nil ?_
        refine K.thn_normal ?_
        refine K.KW.ret ?_
        refine ⟨.inr rfl, rfl, (.bool false), K.res1 rfl rfl, ?_⟩
        exact ⟨congrArg Value.bool (by first | exact (decide_eq_true ⟨by assumption, by assumption, by assumption⟩).symm | exact (decide_eq_false (fun h => absurd h.1 (by assumption))).symm | exact (decide_eq_false (fun h => absurd h.2.1 (by assumption))).symm | exact (decide_eq_false (fun h => absurd h.2.2 (by assumption))).symm), c_46⟩
    ·  -- False
      rw [hb_40] at hv_33; subst hv_33
      have hp_54 := of_decide_eq_false hb_40
      refine K.RW.q rfl rfl (K.QR.k (v := .bool false) (by kernel_rfl)) ?_
      refine K.RW.q rfl rfl (K.QR.k (v := .bool false) (by kernel_rfl)) ?_
      refine K.RW.skip rfl (by kernel_rfl) ?_
      refine K.RW.skip rfl (by kernel_rfl) ?_
      refine K.RW.skip rfl (by kernel_rfl) ?_
      refine K.RW.skip rfl (by kernel_rfl) ?_
      refine K.RW.skip rfl (by kernel_rfl) ?_
      refine K.RW.q rfl rfl (K.QR.k (v := .bool false) (by kernel_rfl)) ?_
      refine K.RW.q rfl rfl (K.QR.k (v := .bool false) (by kernel_rfl)) ?_
      refine K.RW.nil ?_
      refine K.thn_normal ?_
      refine K.KW.ret ?_
      refine ⟨.inr rfl, rfl, (.bool false), K.res1 rfl rfl, ?_⟩
      exact ⟨congrArg Value.bool (by first | exact (decide_eq_true ⟨by assumption, by assumption, by assumption⟩).symm | exact (decide_eq_false (fun h => absurd h.1 (by assumption))).symm | exact (decide_eq_false (fun h => absurd h.2.1 (by assumption))).symm | exact (decide_eq_false (fun h => absurd h.2.2 (by assumption))).symm), c_35⟩
  ·  -- False
    rw [hb_29] at hv_22; subst hv_22
    have hp_55 := of_decide_eq_false hb_29
    refine K.RW.q rfl rfl (K.QR.k (v := .bool false) (by kernel_rfl)) ?_
    refine K.RW.skip rfl (by kernel_rfl) ?_
    refine K.RW.skip rfl (by kernel_rfl) ?_
    refine K.RW.skip rfl (by kernel_rfl) ?_
    refine K.RW.skip rfl (by kernel_rfl) ?_
    refine K.RW.skip rfl (by kernel_rfl) ?_
    refine K.RW.q rfl rfl (K.QR.k (v := .bool false) (by kernel_rfl)) ?_
    refine K.RW.q rfl rfl (K.QR.k (v := .bool false) (by kernel_rfl)) ?_
    refine K.RW.skip rfl (by kernel_rfl) ?_
    refine K.RW.skip rfl (by kernel_rfl) ?_
    refine K.RW.skip rfl (by kernel_rfl) ?_
    refine K.RW.skip rfl (by kernel_rfl) ?_
    refine K.RW.skip rfl (by kernel_rfl) ?_
    refine K.RW.q rfl rfl (K.QR.k (v := .bool false) (by kernel_rfl)) ?_
    refine K.RW.q rfl rfl (K.QR.k (v := .bool false) (by kernel_rfl)) ?_
    refine K.RW.nil ?_
    refine K.thn_normal ?_
    refine K.KW.ret ?_
    refine ⟨.inr rfl, rfl, (.bool false), K.res1 rfl rfl, ?_⟩
    exact ⟨congrArg Value.bool (by first | exact (decide_eq_true ⟨by assumption, by assumption, by assumption⟩).symm | exact (decide_eq_false (fun h => absurd h.1 (by assumption))).symm | exact (decide_eq_false (fun h => absurd h.2.1 (by assumption))).symm | exact (decide_eq_false (fun h => absurd h.2.2 (by assumption))).symm), c_24⟩

set_option maxHeartbeats 1000000 in
set_option maxRecDepth 100000 in
theorem few8_ok (q s m : Option Addr) (nq cq ns cs nm cm : Nat) (w0 : World) :
    K.KC Try.prog 24 #[.agg #[.slice q nq cq, .slice s ns cs, .slice m nm cm]] w0 (fun v w' => v = .bool (decide (nq ≤ 100 ∧ ns ≤ 100 ∧ nm ≤ 100)) ∧ K.Chg K.No w0 w') := by
  refine K.KC.mk (n := 19) Try.func24 rfl rfl [.agg #[.slice q nq cq, .slice s ns cs, .slice m nm cm]] rfl rfl ?_
  refine K.KW.seq ?_
  -- region 0 law.go:17
  refine K.KW.region ?_
  refine K.RW.l rfl (K.OW.new (t := 42) rfl (fun r => .pointer (some ⟨r, 0, none⟩)) [.slice q nq cq, .slice s ns cs, .slice m nm cm] (by kernel_rfl) ?_) 
  intro w_1 r_2 hr_3 e_4 hs_5 b_6
  have c_7 := e_4
  have z_8 := c_7.size
  have zz_9 := e_4.size
  refine K.RW.q rfl rfl (K.QR.k (v := .bool false) (by kernel_rfl)) ?_
  refine K.RW.nil ?_
  refine K.thn_normal ?_
  refine K.KW.seq ?_
  -- region 1 law.go:17
  refine K.KW.region ?_
  refine K.RW.q rfl rfl (K.QR.k (v := .pointer (some ⟨r_2, 0, none⟩)) (by kernel_rfl)) ?_
  refine K.RW.q rfl rfl (K.QR.ld1 (v := .slice q nq cq) rfl rfl (by kernel_rfl) (b_6.cell rfl)) ?_
  refine K.RW.q rfl rfl (K.QR.len (P := Try.prog) rfl rfl Try.underlying39) ?_
  by_cases h_10 : (((nq : Nat) : Int) : Int) ≤ (100 : Int)
  ·  -- yes
    refine K.RW.q rfl rfl (K.QR.nice (v := .bool (decide ((((nq : Nat) : Int) : Int) ≤ (100 : Int)))) (by kernel_rfl) (congrArg Value.bool (decide_eq_true h_10))) ?_
    refine K.RW.q rfl rfl (K.QR.k (v := .bool true) (by kernel_rfl)) ?_
    refine K.RW.q rfl (by kernel_rfl) (K.QR.k (v := .pointer (some ⟨r_2, 1, none⟩)) (by kernel_rfl)) ?_
    refine K.RW.q rfl (by kernel_rfl) (K.QR.ld1 (v := .slice s ns cs) rfl rfl (by kernel_rfl) (b_6.cell rfl)) ?_
    refine K.RW.q rfl (by kernel_rfl) (K.QR.len (P := Try.prog) rfl rfl Try.underlying39) ?_
    by_cases h_11 : (((ns : Nat) : Int) : Int) ≤ (100 : Int)
    ·  -- yes
      refine K.RW.q rfl (by kernel_rfl) (K.QR.nice (v := .bool (decide ((((ns : Nat) : Int) : Int) ≤ (100 : Int)))) (by kernel_rfl) (congrArg Value.bool (decide_eq_true h_11))) ?_
      refine K.RW.q rfl rfl (K.QR.k (v := .bool true) (by kernel_rfl)) ?_
      refine K.RW.q rfl rfl (K.QR.k (v := .bool true) (by kernel_rfl)) ?_
      refine K.RW.q rfl (by kernel_rfl) (K.QR.k (v := .pointer (some ⟨r_2, 2, none⟩)) (by kernel_rfl)) ?_
      refine K.RW.q rfl (by kernel_rfl) (K.QR.ld1 (v := .slice m nm cm) rfl rfl (by kernel_rfl) (b_6.cell rfl)) ?_
      refine K.RW.q rfl (by kernel_rfl) (K.QR.len (P := Try.prog) rfl rfl Try.underlying40) ?_
      by_cases h_12 : (((nm : Nat) : Int) : Int) ≤ (100 : Int)
      ·  -- yes
        refine K.RW.q rfl (by kernel_rfl) (K.QR.nice (v := .bool (decide ((((nm : Nat) : Int) : Int) ≤ (100 : Int)))) (by kernel_rfl) (congrArg Value.bool (decide_eq_true h_12))) ?_
        refine K.RW.q rfl rfl (K.QR.k (v := .bool true) (by kernel_rfl)) ?_
        refine K.RW.q rfl rfl (K.QR.k (v := .bool true) (by kernel_rfl)) ?_
        refine K.RW.nil ?_
        refine K.thn_normal ?_
        refine K.KW.ret ?_
        refine ⟨.inr rfl, rfl, (.bool true), K.res1 rfl rfl, ?_⟩
        exact ⟨congrArg Value.bool (by first | exact (decide_eq_true (by omega)).symm | exact (decide_eq_false (by omega)).symm), c_7⟩
      ·  -- no
        refine K.RW.q rfl (by kernel_rfl) (K.QR.nice (v := .bool (decide ((((nm : Nat) : Int) : Int) ≤ (100 : Int)))) (by kernel_rfl) (congrArg Value.bool (decide_eq_false h_12))) ?_
        refine K.RW.q rfl rfl (K.QR.k (v := .bool false) (by kernel_rfl)) ?_
        refine K.RW.q rfl rfl (K.QR.k (v := .bool false) (by kernel_rfl)) ?_
        refine K.RW.nil ?_
        refine K.thn_normal ?_
        refine K.KW.ret ?_
        refine ⟨.inr rfl, rfl, (.bool false), K.res1 rfl rfl, ?_⟩
        exact ⟨congrArg Value.bool (by first | exact (decide_eq_true (by omega)).symm | exact (decide_eq_false (by omega)).symm), c_7⟩
    ·  -- no
      refine K.RW.q rfl (by kernel_rfl) (K.QR.nice (v := .bool (decide ((((ns : Nat) : Int) : Int) ≤ (100 : Int)))) (by kernel_rfl) (congrArg Value.bool (decide_eq_false h_11))) ?_
      refine K.RW.q rfl rfl (K.QR.k (v := .bool false) (by kernel_rfl)) ?_
      refine K.RW.q rfl rfl (K.QR.k (v := .bool false) (by kernel_rfl)) ?_
      refine K.RW.skip rfl (by kernel_rfl) ?_
      refine K.RW.skip rfl (by kernel_rfl) ?_
      refine K.RW.skip rfl (by kernel_rfl) ?_
      refine K.RW.skip rfl (by kernel_rfl) ?_
      refine K.RW.q rfl rfl (K.QR.k (v := .bool false) (by kernel_rfl)) ?_
      refine K.RW.q rfl rfl (K.QR.k (v := .bool false) (by kernel_rfl)) ?_
      refine K.RW.nil ?_
      refine K.thn_normal ?_
      refine K.KW.ret ?_
      refine ⟨.inr rfl, rfl, (.bool false), K.res1 rfl rfl, ?_⟩
      exact ⟨congrArg Value.bool (by first | exact (decide_eq_true (by omega)).symm | exact (decide_eq_false (by omega)).symm), c_7⟩
  ·  -- no
    refine K.RW.q rfl rfl (K.QR.nice (v := .bool (decide ((((nq : Nat) : Int) : Int) ≤ (100 : Int)))) (by kernel_rfl) (congrArg Value.bool (decide_eq_false h_10))) ?_
    refine K.RW.q rfl rfl (K.QR.k (v := .bool false) (by kernel_rfl)) ?_
    refine K.RW.skip rfl (by kernel_rfl) ?_
    refine K.RW.skip rfl (by kernel_rfl) ?_
    refine K.RW.skip rfl (by kernel_rfl) ?_
    refine K.RW.skip rfl (by kernel_rfl) ?_
    refine K.RW.q rfl rfl (K.QR.k (v := .bool false) (by kernel_rfl)) ?_
    refine K.RW.q rfl rfl (K.QR.k (v := .bool false) (by kernel_rfl)) ?_
    refine K.RW.skip rfl (by kernel_rfl) ?_
    refine K.RW.skip rfl (by kernel_rfl) ?_
    refine K.RW.skip rfl (by kernel_rfl) ?_
    refine K.RW.skip rfl (by kernel_rfl) ?_
    refine K.RW.q rfl rfl (K.QR.k (v := .bool false) (by kernel_rfl)) ?_
    refine K.RW.q rfl rfl (K.QR.k (v := .bool false) (by kernel_rfl)) ?_
    refine K.RW.nil ?_
    refine K.thn_normal ?_
    refine K.KW.ret ?_
    refine ⟨.inr rfl, rfl, (.bool false), K.res1 rfl rfl, ?_⟩
    exact ⟨congrArg Value.bool (by first | exact (decide_eq_true (by omega)).symm | exact (decide_eq_false (by omega)).symm), c_7⟩

set_option maxHeartbeats 4000000 in
set_option maxRecDepth 100000 in
theorem lsame8_ok (q s m q' s' m' : Option Addr) (cq cs cm cq' cs' cm' : Nat) (qa sa qb sb : List Int) (ma mb : List PairM) (w0 : World) (h1 : qa.length ≤ 1000) (h2 : sa.length ≤ 1000) (h3 : ma.length ≤ 1000) (x1 : RU32 w0 q qa) (x2 : RU32 w0 s sa) (x3 : RPr w0 m ma) (y1 : RU32 w0 q' qb) (y2 : RU32 w0 s' sb) (y3 : RPr w0 m' mb) :
    K.KC Try.prog 30 #[.agg #[.slice q qa.length cq, .slice s sa.length cs, .slice m ma.length cm], .agg #[.slice q' qb.length cq', .slice s' sb.length cs', .slice m' mb.length cm']] w0 (fun v w' => v = .bool (decide (qa = qb ∧ sa = sb ∧ ma = mb)) ∧ K.Chg K.No w0 w') := by
  refine K.KC.mk (n := 87) Try.func30 rfl rfl [.agg #[.slice q qa.length cq, .slice s sa.length cs, .slice m ma.length cm], .agg #[.slice q' qb.length cq', .slice s' sb.length cs', .slice m' mb.length cm']] rfl rfl ?_
  refine K.KW.seq ?_
  -- region 0 law.go:20
  refine K.KW.region ?_
  refine K.RW.l rfl (K.OW.new (t := 42) rfl (fun r => .pointer (some ⟨r, 0, none⟩)) [.slice q qa.length cq, .slice s sa.length cs, .slice m ma.length cm] (by kernel_rfl) ?_) 
  intro w_1 r_2 hr_3 e_4 hs_5 b_6
  have c_7 := e_4
  have z_8 := c_7.size
  have zz_9 := e_4.size
  refine K.RW.l rfl (K.OW.new (t := 42) rfl (fun r => .pointer (some ⟨r, 0, none⟩)) [.slice q' qb.length cq', .slice s' sb.length cs', .slice m' mb.length cm'] (by kernel_rfl) ?_) 
  intro w_10 r_11 hr_12 e_13 hs_14 b_15
  have c_16 := c_7.no e_13
  have z_17 := c_16.size
  have zz_18 := e_13.size
  have f_19 := b_6.no e_13
  refine K.RW.q rfl rfl (K.QR.k (v := .bool false) (by kernel_rfl)) ?_
  refine K.RW.nil ?_
  refine K.thn_normal ?_
  refine K.KW.seq ?_
  refine K.KW.seq ?_
  -- region 1 law.go:21
  refine K.KW.region ?_
  refine K.RW.q rfl rfl (K.QR.k (v := .pointer (some ⟨r_2, 0, none⟩)) (by kernel_rfl)) ?_
  refine K.RW.q rfl rfl (K.QR.ld1 (v := .slice q qa.length cq) rfl rfl (by kernel_rfl) (f_19.cell rfl)) ?_
  refine K.RW.q rfl rfl (K.QR.len (P := Try.prog) rfl rfl Try.underlying39) ?_
  refine K.RW.q rfl rfl (K.QR.k (v := .pointer (some ⟨r_11, 0, none⟩)) (by kernel_rfl)) ?_
  refine K.RW.q rfl rfl (K.QR.ld1 (v := .slice q' qb.length cq') rfl rfl (by kernel_rfl) (b_15.cell rfl)) ?_
  refine K.RW.q rfl rfl (K.QR.len (P := Try.prog) rfl rfl Try.underlying39) ?_
  by_cases h_20 : (((qa.length : Nat) : Int) : Int) = (((qb.length : Nat) : Int) : Int)
  ·  -- yes
    refine K.RW.q rfl rfl (K.QR.nice (v := .bool ((((qa.length : Nat) : Int) : Int) != (((qb.length : Nat) : Int) : Int))) (by kernel_rfl) (congrArg Value.bool (bne_eq_false_iff_eq.2 h_20))) ?_
    refine K.RW.q rfl rfl (K.QR.k (v := .bool false) (by kernel_rfl)) ?_
    refine K.RW.q rfl (by kernel_rfl) (K.QR.k (v := .pointer (some ⟨r_2, 1, none⟩)) (by kernel_rfl)) ?_
    refine K.RW.q rfl (by kernel_rfl) (K.QR.ld1 (v := .slice s sa.length cs) rfl rfl (by kernel_rfl) (f_19.cell rfl)) ?_
    refine K.RW.q rfl (by kernel_rfl) (K.QR.len (P := Try.prog) rfl rfl Try.underlying39) ?_
    refine K.RW.q rfl (by kernel_rfl) (K.QR.k (v := .pointer (some ⟨r_11, 1, none⟩)) (by kernel_rfl)) ?_
    refine K.RW.q rfl (by kernel_rfl) (K.QR.ld1 (v := .slice s' sb.length cs') rfl rfl (by kernel_rfl) (b_15.cell rfl)) ?_
    refine K.RW.q rfl (by kernel_rfl) (K.QR.len (P := Try.prog) rfl rfl Try.underlying39) ?_
    by_cases h_21 : (((sa.length : Nat) : Int) : Int) = (((sb.length : Nat) : Int) : Int)
    ·  -- yes
      refine K.RW.q rfl (by kernel_rfl) (K.QR.nice (v := .bool ((((sa.length : Nat) : Int) : Int) != (((sb.length : Nat) : Int) : Int))) (by kernel_rfl) (congrArg Value.bool (bne_eq_false_iff_eq.2 h_21))) ?_
      refine K.RW.q rfl rfl (K.QR.k (v := .bool false) (by kernel_rfl)) ?_
      refine K.RW.q rfl rfl (K.QR.k (v := .bool false) (by kernel_rfl)) ?_
      refine K.RW.q rfl (by kernel_rfl) (K.QR.k (v := .pointer (some ⟨r_2, 2, none⟩)) (by kernel_rfl)) ?_
      refine K.RW.q rfl (by kernel_rfl) (K.QR.ld1 (v := .slice m ma.length cm) rfl rfl (by kernel_rfl) (f_19.cell rfl)) ?_
      refine K.RW.q rfl (by kernel_rfl) (K.QR.len (P := Try.prog) rfl rfl Try.underlying40) ?_
      refine K.RW.q rfl (by kernel_rfl) (K.QR.k (v := .pointer (some ⟨r_11, 2, none⟩)) (by kernel_rfl)) ?_
      refine K.RW.q rfl (by kernel_rfl) (K.QR.ld1 (v := .slice m' mb.length cm') rfl rfl (by kernel_rfl) (b_15.cell rfl)) ?_
      refine K.RW.q rfl (by kernel_rfl) (K.QR.len (P := Try.prog) rfl rfl Try.underlying40) ?_
      by_cases h_22 : (((ma.length : Nat) : Int) : Int) = (((mb.length : Nat) : Int) : Int)
      ·  -- yes
        refine K.RW.q rfl (by kernel_rfl) (K.QR.nice (v := .bool ((((ma.length : Nat) : Int) : Int) != (((mb.length : Nat) : Int) : Int))) (by kernel_rfl) (congrArg Value.bool (bne_eq_false_iff_eq.2 h_22))) ?_
        refine K.RW.q rfl rfl (K.QR.k (v := .bool false) (by kernel_rfl)) ?_
        refine K.RW.nil ?_
        refine K.thn_normal ?_
        refine K.KW.ifF rfl ?_
        refine K.KW.skip ?_
        refine K.thn_normal ?_
        refine K.KW.seq ?_
        refine K.KW.seq ?_
        -- region 3 law.go:24
        refine K.KW.region ?_
        refine K.RW.q rfl rfl (K.QR.k (v := .int .i64 0) (by kernel_rfl)) ?_
        refine K.RW.nil ?_
        refine K.thn_normal ?_
        refine K.KW.block ?_
        refine K.KW.loop (fun m_ F_ w_23 => ∃ (i : Nat), m_ = qa.length - i ∧ K.Sl F_ [(0, .agg #[.slice q qa.length cq, .slice s sa.length cs, .slice m ma.length cm]), (1, .agg #[.slice q' qb.length cq', .slice s' sb.length cs', .slice m' mb.length cm']), (2, .pointer (some ⟨r_2, 0, none⟩)), (3, .pointer (some ⟨r_11, 0, none⟩)), (5, .int .i64 ((i : Nat) : Int)), (87, undef)] ∧ i ≤ qa.length ∧ upTo 0 qa qb i ∧ qa.length = qb.length ∧ sa.length = sb.length ∧ ma.length = mb.length ∧ K.Chg K.No w0 w_23 ∧ K.Blk w_23 r_2 42 [.slice q qa.length cq, .slice s sa.length cs, .slice m ma.length cm] ∧ K.Blk w_23 r_11 42 [.slice q' qb.length cq', .slice s' sb.length cs', .slice m' mb.length cm']) ((fun (i : Nat) => qa.length - i) 0) ?_ ?_
        · -- the loop begins
          exact ⟨0, rfl, ⟨by rfl, by rfl, by rfl, by rfl, by rfl, by rfl, trivial⟩, (by omega), (upTo_zero _ _ _), (by first | assumption | omega | (exact upTo_eq (d := 0) (k := i) (by omega) (by omega) (by assumption)) | (exact upTo_eq (d := 0) (k := j) (by omega) (by omega) (by assumption))), (by first | assumption | omega | (exact upTo_eq (d := 0) (k := i) (by omega) (by omega) (by assumption)) | (exact upTo_eq (d := 0) (k := j) (by omega) (by omega) (by assumption))), (by first | assumption | omega | (exact upTo_eq (d := 0) (k := i) (by omega) (by omega) (by assumption)) | (exact upTo_eq (d := 0) (k := j) (by omega) (by omega) (by assumption))), c_16, f_19, b_15⟩
        · -- a round
          intro m_26 F_27 w_23 hI
          obtain ⟨i, rfl, sl_28, p_30, p_31, p_32, p_33, p_34, c_29, f_35, f_36⟩ := hI
          rw [← K.Sl.puts sl_28]; clear sl_28
          have z_37 := c_29.size
          refine K.KW.seq ?_
          refine K.KW.seq ?_
          -- region 4 law.go:24
          refine K.KW.region ?_
          refine K.RW.q rfl rfl (K.QR.k (v := .int .i64 ((i : Nat) : Int)) (by kernel_rfl)) ?_
          refine K.RW.q rfl rfl (K.QR.k (v := .pointer (some ⟨r_2, 0, none⟩)) (by kernel_rfl)) ?_
          refine K.RW.q rfl rfl (K.QR.ld1 (v := .slice q qa.length cq) rfl rfl (by kernel_rfl) (f_35.cell rfl)) ?_
          refine K.RW.q rfl rfl (K.QR.len (P := Try.prog) rfl rfl Try.underlying39) ?_
          by_cases h_38 : (((i : Nat) : Int) : Int) < (((qa.length : Nat) : Int) : Int)
          ·  -- yes
            refine K.RW.q rfl rfl (K.QR.nice (v := .bool (decide ((((i : Nat) : Int) : Int) < (((qa.length : Nat) : Int) : Int)))) (by kernel_rfl) (congrArg Value.bool (decide_eq_true h_38))) ?_
            refine K.RW.nil ?_
            refine K.thn_normal ?_
            refine K.KW.ifT rfl ?_
            refine K.KW.skip ?_
            refine K.thn_normal ?_
            refine K.KW.seq ?_
            refine K.KW.block ?_
            refine K.KW.seq ?_
            -- region 6 law.go:25
            obtain ⟨b_39, of_40, rfl, _⟩ := x1.at_ (by omega)
            obtain ⟨b_41, of_42, rfl, _⟩ := y1.at_ (by omega)
            refine K.KW.drawn (fun w => K.Chg K.No w0 w ∧ (w.cell? ⟨r_11, 0, none⟩ = some (.slice (some ⟨b_41, of_42, none⟩) qb.length cq')) ∧ (w.cell? ⟨r_2, 0, none⟩ = some (.slice (some ⟨b_39, of_40, none⟩) qa.length cq))) (by kernel_rfl) ?_
            intro w_43 e_44 hs_45
            have c_47 := c_29.no e_44
            have z_48 := c_47.size
            have zz_49 := e_44.size
            have f_50 := f_35.no e_44
            have f_51 := f_36.no e_44
            have hS_46 : (fun w => K.Chg K.No w0 w ∧ (w.cell? ⟨r_11, 0, none⟩ = some (.slice (some ⟨b_41, of_42, none⟩) qb.length cq')) ∧ (w.cell? ⟨r_2, 0, none⟩ = some (.slice (some ⟨b_39, of_40, none⟩) qa.length cq))) w_43 := ⟨c_47, ((f_51).cell rfl), ((f_50).cell rfl)⟩
            refine K.DW.q 0 (by kernel_rfl) rfl rfl (by kernel_rfl) rfl (fun w hS => K.QR.k (v := .pointer (some ⟨r_2, 0, none⟩)) (by kernel_rfl)) hS_46 ?_
            refine K.DW.q 1 (by kernel_rfl) rfl rfl (by kernel_rfl) rfl (fun w hS => K.QR.ld1 (v := .slice (some ⟨b_39, of_40, none⟩) qa.length cq) rfl rfl (by kernel_rfl) (hS.2.2)) hS_46 ?_
            refine K.DW.q 2 (by kernel_rfl) rfl rfl (by kernel_rfl) rfl (fun w hS => K.QR.k (v := .int .i64 ((i : Nat) : Int)) (by kernel_rfl)) hS_46 ?_
            refine K.DW.q 3 (by kernel_rfl) rfl rfl (by kernel_rfl) rfl (fun w hS => K.QR.ix (of_40 + i * 1) 1 rfl rfl rfl Try.underlying39 (by kernel_rfl) (by omega) (by first | (simp; done) | omega | (simp; omega))) hS_46 ?_
            refine K.DW.q 4 (by kernel_rfl) rfl rfl (by kernel_rfl) rfl (fun w hS => K.QR.ld1 (v := .int .u32 (qa.getD i 0)) rfl rfl (by kernel_rfl) (hS.1.cell (x1.ld i (by omega) 0 _ rfl) id)) hS_46 ?_
            refine K.DW.q 5 (by kernel_rfl) rfl rfl (by kernel_rfl) rfl (fun w hS => K.QR.k (v := .pointer (some ⟨r_11, 0, none⟩)) (by kernel_rfl)) hS_46 ?_
            refine K.DW.q 6 (by kernel_rfl) rfl rfl (by kernel_rfl) rfl (fun w hS => K.QR.ld1 (v := .slice (some ⟨b_41, of_42, none⟩) qb.length cq') rfl rfl (by kernel_rfl) (hS.2.1)) hS_46 ?_
            refine K.DW.l 7 rfl (by kernel_rfl) rfl (K.OW.q rfl (K.QR.k (v := .int .i64 ((i : Nat) : Int)) (by kernel_rfl)) ?_)
            refine ⟨.inl hS_46, ?_⟩
            refine K.DW.l 8 rfl (by kernel_rfl) rfl (K.OW.q rfl (K.QR.ix (of_42 + i * 1) 1 rfl rfl rfl Try.underlying39 (by kernel_rfl) (by omega) (by first | (simp; done) | omega | (simp; omega))) ?_)
            refine ⟨.inl hS_46, ?_⟩
            refine K.DW.l 9 rfl (by kernel_rfl) rfl (K.OW.q rfl (K.QR.ld1 (v := .int .u32 (qb.getD i 0)) rfl rfl (by kernel_rfl) (c_47.cell (y1.ld i (by omega) 0 _ rfl) id)) ?_)
            refine ⟨.inl hS_46, ?_⟩
            by_cases h_52 : (qa.getD i 0 : Int) = (qb.getD i 0 : Int)
            ·  -- yes
              refine K.DW.l 10 rfl (by kernel_rfl) rfl (K.OW.q rfl (K.QR.nice (v := .bool ((qa.getD i 0 : Int) != (qb.getD i 0 : Int))) (by kernel_rfl) (congrArg Value.bool (bne_eq_false_iff_eq.2 h_52))) ?_)
              refine ⟨.inl hS_46, ?_⟩
              refine K.DW.done (by kernel_rfl) ?_
              refine K.thn_normal ?_
              refine K.KW.ifF rfl ?_
              refine K.KW.skip ?_
              refine K.blk_normal ?_
              refine K.thn_normal ?_
              -- region 5 law.go:24
              refine K.KW.region ?_
              refine K.RW.q rfl rfl (K.QR.k (v := .int .i64 ((i : Nat) : Int)) (by kernel_rfl)) ?_
              refine K.RW.q rfl rfl (K.QR.n64 ((((i : Nat) : Int) : Int) + (1 : Int)) ((i + 1 : Nat) : Int) (by kernel_rfl) (by omega)) ?_
              refine K.RW.q rfl rfl (K.QR.k (v := .int .i64 ((i + 1 : Nat) : Int)) (by kernel_rfl)) ?_
              refine K.RW.nil ?_
              refine K.thn_normal ?_
              refine ⟨_, ?_, i + 1, rfl, ⟨by rfl, by rfl, by rfl, by rfl, by rfl, by rfl, trivial⟩, (by omega), (upTo_succ (by assumption) (by assumption)), (by assumption), (by assumption), (by assumption), c_47, f_50, f_51⟩
              omega
            ·  -- no
              refine K.DW.l 10 rfl (by kernel_rfl) rfl (K.OW.q rfl (K.QR.nice (v := .bool ((qa.getD i 0 : Int) != (qb.getD i 0 : Int))) (by kernel_rfl) (congrArg Value.bool (bne_iff_ne.2 h_52))) ?_)
              refine ⟨.inl hS_46, ?_⟩
              refine K.DW.done (by kernel_rfl) ?_
              refine K.thn_normal ?_
              refine K.KW.ifT rfl ?_
              refine K.KW.seq ?_
              -- region 7 law.go:26
              refine K.KW.region ?_
              refine K.RW.q rfl rfl (K.QR.k (v := .bool false) (by kernel_rfl)) ?_
              refine K.RW.nil ?_
              refine K.thn_normal ?_
              refine K.KW.ret ?_
              refine K.blk_ret ?_
              refine K.thn_ret ?_
              refine K.thn_ret ?_
              refine K.blk_ret ?_
              refine K.thn_ret ?_
              refine ⟨.inr rfl, rfl, (.bool false), K.res1 rfl rfl, ?_⟩
              exact ⟨congrArg Value.bool (by first | exact (decide_eq_true ⟨by assumption, by assumption, upTo_eq (d := p0) (k := k) (by assumption) (by omega) (by assumption)⟩).symm | exact (decide_eq_false (fun h => absurd h.1 (by first | exact len_ne (by assumption) | exact get_neU (by assumption)))).symm | exact (decide_eq_false (fun h => absurd h.2.1 (by first | exact len_ne (by assumption) | exact get_neU (by assumption)))).symm | exact (decide_eq_false (fun h => absurd h.2.2 (by first | exact len_ne (by assumption) | exact get_neP (by assumption)))).symm), c_47⟩
          ·  -- no
            refine K.RW.q rfl rfl (K.QR.nice (v := .bool (decide ((((i : Nat) : Int) : Int) < (((qa.length : Nat) : Int) : Int)))) (by kernel_rfl) (congrArg Value.bool (decide_eq_false h_38))) ?_
            refine K.RW.nil ?_
            refine K.thn_normal ?_
            refine K.KW.ifF rfl ?_
            refine K.KW.exit ?_
            refine K.thn_exit ?_
            refine K.thn_exit ?_
            refine K.blk_hit ?_
            refine K.thn_normal ?_
            refine K.KW.seq ?_
            refine K.KW.seq ?_
            -- region 8 law.go:29
            refine K.KW.region ?_
            refine K.RW.q rfl rfl (K.QR.k (v := .int .i64 0) (by kernel_rfl)) ?_
            refine K.RW.nil ?_
            refine K.thn_normal ?_
            refine K.KW.block ?_
            refine K.KW.loop (fun m_ F_ w_53 => ∃ (j : Nat), m_ = sa.length - j ∧ K.Sl F_ [(0, .agg #[.slice q qa.length cq, .slice s sa.length cs, .slice m ma.length cm]), (1, .agg #[.slice q' qb.length cq', .slice s' sb.length cs', .slice m' mb.length cm']), (2, .pointer (some ⟨r_2, 0, none⟩)), (3, .pointer (some ⟨r_11, 0, none⟩)), (6, .int .i64 ((j : Nat) : Int)), (87, undef)] ∧ j ≤ sa.length ∧ upTo 0 sa sb j ∧ qa.length = qb.length ∧ sa.length = sb.length ∧ ma.length = mb.length ∧ qa = qb ∧ K.Chg K.No w0 w_53 ∧ K.Blk w_53 r_2 42 [.slice q qa.length cq, .slice s sa.length cs, .slice m ma.length cm] ∧ K.Blk w_53 r_11 42 [.slice q' qb.length cq', .slice s' sb.length cs', .slice m' mb.length cm']) ((fun (j : Nat) => sa.length - j) 0) ?_ ?_
            · -- the loop begins
              exact ⟨0, rfl, ⟨by rfl, by rfl, by rfl, by rfl, by rfl, by rfl, trivial⟩, (by omega), (upTo_zero _ _ _), (by first | assumption | omega | (exact upTo_eq (d := 0) (k := i) (by omega) (by omega) (by assumption)) | (exact upTo_eq (d := 0) (k := j) (by omega) (by omega) (by assumption))), (by first | assumption | omega | (exact upTo_eq (d := 0) (k := i) (by omega) (by omega) (by assumption)) | (exact upTo_eq (d := 0) (k := j) (by omega) (by omega) (by assumption))), (by first | assumption | omega | (exact upTo_eq (d := 0) (k := i) (by omega) (by omega) (by assumption)) | (exact upTo_eq (d := 0) (k := j) (by omega) (by omega) (by assumption))), (by first | assumption | omega | (exact upTo_eq (d := 0) (k := i) (by omega) (by omega) (by assumption)) | (exact upTo_eq (d := 0) (k := j) (by omega) (by omega) (by assumption))), c_29, f_35, f_36⟩
            · -- a round
              intro m_56 F_57 w_53 hI
              obtain ⟨j, rfl, sl_58, p_60, p_61, p_62, p_63, p_64, p_65, c_59, f_66, f_67⟩ := hI
              rw [← K.Sl.puts sl_58]; clear sl_58
              have z_68 := c_59.size
              refine K.KW.seq ?_
              refine K.KW.seq ?_
              -- region 9 law.go:29
              refine K.KW.region ?_
              refine K.RW.q rfl rfl (K.QR.k (v := .int .i64 ((j : Nat) : Int)) (by kernel_rfl)) ?_
              refine K.RW.q rfl rfl (K.QR.k (v := .pointer (some ⟨r_2, 1, none⟩)) (by kernel_rfl)) ?_
              refine K.RW.q rfl rfl (K.QR.ld1 (v := .slice s sa.length cs) rfl rfl (by kernel_rfl) (f_66.cell rfl)) ?_
              refine K.RW.q rfl rfl (K.QR.len (P := Try.prog) rfl rfl Try.underlying39) ?_
              by_cases h_69 : (((j : Nat) : Int) : Int) < (((sa.length : Nat) : Int) : Int)
              ·  -- yes
                refine K.RW.q rfl rfl (K.QR.nice (v := .bool (decide ((((j : Nat) : Int) : Int) < (((sa.length : Nat) : Int) : Int)))) (by kernel_rfl) (congrArg Value.bool (decide_eq_true h_69))) ?_
                refine K.RW.nil ?_
                refine K.thn_normal ?_
                refine K.KW.ifT rfl ?_
                refine K.KW.skip ?_
                refine K.thn_normal ?_
                refine K.KW.seq ?_
                refine K.KW.block ?_
                refine K.KW.seq ?_
                -- region 11 law.go:30
                obtain ⟨b_70, of_71, rfl, _⟩ := x2.at_ (by omega)
                obtain ⟨b_72, of_73, rfl, _⟩ := y2.at_ (by omega)
                refine K.KW.drawn (fun w => K.Chg K.No w0 w ∧ (w.cell? ⟨r_11, 1, none⟩ = some (.slice (some ⟨b_72, of_73, none⟩) sb.length cs')) ∧ (w.cell? ⟨r_2, 1, none⟩ = some (.slice (some ⟨b_70, of_71, none⟩) sa.length cs))) (by kernel_rfl) ?_
                intro w_74 e_75 hs_76
                have c_78 := c_59.no e_75
                have z_79 := c_78.size
                have zz_80 := e_75.size
                have f_81 := f_66.no e_75
                have f_82 := f_67.no e_75
                have hS_77 : (fun w => K.Chg K.No w0 w ∧ (w.cell? ⟨r_11, 1, none⟩ = some (.slice (some ⟨b_72, of_73, none⟩) sb.length cs')) ∧ (w.cell? ⟨r_2, 1, none⟩ = some (.slice (some ⟨b_70, of_71, none⟩) sa.length cs))) w_74 := ⟨c_78, ((f_82).cell rfl), ((f_81).cell rfl)⟩
                refine K.DW.q 0 (by kernel_rfl) rfl rfl (by kernel_rfl) rfl (fun w hS => K.QR.k (v := .pointer (some ⟨r_2, 1, none⟩)) (by kernel_rfl)) hS_77 ?_
                refine K.DW.q 1 (by kernel_rfl) rfl rfl (by kernel_rfl) rfl (fun w hS => K.QR.ld1 (v := .slice (some ⟨b_70, of_71, none⟩) sa.length cs) rfl rfl (by kernel_rfl) (hS.2.2)) hS_77 ?_
                refine K.DW.q 2 (by kernel_rfl) rfl rfl (by kernel_rfl) rfl (fun w hS => K.QR.k (v := .int .i64 ((j : Nat) : Int)) (by kernel_rfl)) hS_77 ?_
                refine K.DW.q 3 (by kernel_rfl) rfl rfl (by kernel_rfl) rfl (fun w hS => K.QR.ix (of_71 + j * 1) 1 rfl rfl rfl Try.underlying39 (by kernel_rfl) (by omega) (by first | (simp; done) | omega | (simp; omega))) hS_77 ?_
                refine K.DW.q 4 (by kernel_rfl) rfl rfl (by kernel_rfl) rfl (fun w hS => K.QR.ld1 (v := .int .u32 (sa.getD j 0)) rfl rfl (by kernel_rfl) (hS.1.cell (x2.ld j (by omega) 0 _ rfl) id)) hS_77 ?_
                refine K.DW.q 5 (by kernel_rfl) rfl rfl (by kernel_rfl) rfl (fun w hS => K.QR.k (v := .pointer (some ⟨r_11, 1, none⟩)) (by kernel_rfl)) hS_77 ?_
                refine K.DW.q 6 (by kernel_rfl) rfl rfl (by kernel_rfl) rfl (fun w hS => K.QR.ld1 (v := .slice (some ⟨b_72, of_73, none⟩) sb.length cs') rfl rfl (by kernel_rfl) (hS.2.1)) hS_77 ?_
                refine K.DW.l 7 rfl (by kernel_rfl) rfl (K.OW.q rfl (K.QR.k (v := .int .i64 ((j : Nat) : Int)) (by kernel_rfl)) ?_)
                refine ⟨.inl hS_77, ?_⟩
                refine K.DW.l 8 rfl (by kernel_rfl) rfl (K.OW.q rfl (K.QR.ix (of_73 + j * 1) 1 rfl rfl rfl Try.underlying39 (by kernel_rfl) (by omega) (by first | (simp; done) | omega | (simp; omega))) ?_)
                refine ⟨.inl hS_77, ?_⟩
                refine K.DW.l 9 rfl (by kernel_rfl) rfl (K.OW.q rfl (K.QR.ld1 (v := .int .u32 (sb.getD j 0)) rfl rfl (by kernel_rfl) (c_78.cell (y2.ld j (by omega) 0 _ rfl) id)) ?_)
                refine ⟨.inl hS_77, ?_⟩
                by_cases h_83 : (sa.getD j 0 : Int) = (sb.getD j 0 : Int)
                ·  -- yes
                  refine K.DW.l 10 rfl (by kernel_rfl) rfl (K.OW.q rfl (K.QR.nice (v := .bool ((sa.getD j 0 : Int) != (sb.getD j 0 : Int))) (by kernel_rfl) (congrArg Value.bool (bne_eq_false_iff_eq.2 h_83))) ?_)
                  refine ⟨.inl hS_77, ?_⟩
                  refine K.DW.done (by kernel_rfl) ?_
                  refine K.thn_normal ?_
                  refine K.KW.ifF rfl ?_
                  refine K.KW.skip ?_
                  refine K.blk_normal ?_
                  refine K.thn_normal ?_
                  -- region 10 law.go:29
                  refine K.KW.region ?_
                  refine K.RW.q rfl rfl (K.QR.k (v := .int .i64 ((j : Nat) : Int)) (by kernel_rfl)) ?_
                  refine K.RW.q rfl rfl (K.QR.n64 ((((j : Nat) : Int) : Int) + (1 : Int)) ((j + 1 : Nat) : Int) (by kernel_rfl) (by omega)) ?_
                  refine K.RW.q rfl rfl (K.QR.k (v := .int .i64 ((j + 1 : Nat) : Int)) (by kernel_rfl)) ?_
                  refine K.RW.nil ?_
                  refine K.thn_normal ?_
                  refine ⟨_, ?_, j + 1, rfl, ⟨by rfl, by rfl, by rfl, by rfl, by rfl, by rfl, trivial⟩, (by omega), (upTo_succ (by assumption) (by assumption)), (by assumption), (by assumption), (by assumption), (by assumption), c_78, f_81, f_82⟩
                  omega
                ·  -- no
                  refine K.DW.l 10 rfl (by kernel_rfl) rfl (K.OW.q rfl (K.QR.nice (v := .bool ((sa.getD j 0 : Int) != (sb.getD j 0 : Int))) (by kernel_rfl) (congrArg Value.bool (bne_iff_ne.2 h_83))) ?_)
                  refine ⟨.inl hS_77, ?_⟩
                  refine K.DW.done (by kernel_rfl) ?_
                  refine K.thn_normal ?_
                  refine K.KW.ifT rfl ?_
                  refine K.KW.seq ?_
                  -- region 12 law.go:31
                  refine K.KW.region ?_
                  refine K.RW.q rfl rfl (K.QR.k (v := .bool false) (by kernel_rfl)) ?_
                  refine K.RW.nil ?_
                  refine K.thn_normal ?_
                  refine K.KW.ret ?_
                  refine K.blk_ret ?_
                  refine K.thn_ret ?_
                  refine K.thn_ret ?_
                  refine K.blk_ret ?_
                  refine K.thn_ret ?_
                  refine ⟨.inr rfl, rfl, (.bool false), K.res1 rfl rfl, ?_⟩
                  exact ⟨congrArg Value.bool (by first | exact (decide_eq_true ⟨by assumption, by assumption, upTo_eq (d := p0) (k := k) (by assumption) (by omega) (by assumption)⟩).symm | exact (decide_eq_false (fun h => absurd h.1 (by first | exact len_ne (by assumption) | exact get_neU (by assumption)))).symm | exact (decide_eq_false (fun h => absurd h.2.1 (by first | exact len_ne (by assumption) | exact get_neU (by assumption)))).symm | exact (decide_eq_false (fun h => absurd h.2.2 (by first | exact len_ne (by assumption) | exact get_neP (by assumption)))).symm), c_78⟩
              ·  -- no
                refine K.RW.q rfl rfl (K.QR.nice (v := .bool (decide ((((j : Nat) : Int) : Int) < (((sa.length : Nat) : Int) : Int)))) (by kernel_rfl) (congrArg Value.bool (decide_eq_false h_69))) ?_
                refine K.RW.nil ?_
                refine K.thn_normal ?_
                refine K.KW.ifF rfl ?_
                refine K.KW.exit ?_
                refine K.thn_exit ?_
                refine K.thn_exit ?_
                refine K.blk_hit ?_
                refine K.thn_normal ?_
                refine K.KW.seq ?_
                refine K.KW.seq ?_
                -- region 13 law.go:34
                refine K.KW.region ?_
                refine K.RW.q rfl rfl (K.QR.k (v := .int .i64 0) (by kernel_rfl)) ?_
                refine K.RW.nil ?_
                refine K.thn_normal ?_
                refine K.KW.block ?_
                refine K.KW.loop (fun m_ F_ w_84 => ∃ (k : Nat), m_ = ma.length - k ∧ K.Sl F_ [(0, .agg #[.slice q qa.length cq, .slice s sa.length cs, .slice m ma.length cm]), (1, .agg #[.slice q' qb.length cq', .slice s' sb.length cs', .slice m' mb.length cm']), (2, .pointer (some ⟨r_2, 0, none⟩)), (3, .pointer (some ⟨r_11, 0, none⟩)), (7, .int .i64 ((k : Nat) : Int)), (87, undef)] ∧ k ≤ ma.length ∧ upTo p0 ma mb k ∧ qa.length = qb.length ∧ sa.length = sb.length ∧ ma.length = mb.length ∧ qa = qb ∧ sa = sb ∧ K.Chg K.No w0 w_84 ∧ K.Blk w_84 r_2 42 [.slice q qa.length cq, .slice s sa.length cs, .slice m ma.length cm] ∧ K.Blk w_84 r_11 42 [.slice q' qb.length cq', .slice s' sb.length cs', .slice m' mb.length cm']) ((fun (k : Nat) => ma.length - k) 0) ?_ ?_
                · -- the loop begins
                  exact ⟨0, rfl, ⟨by rfl, by rfl, by rfl, by rfl, by rfl, by rfl, trivial⟩, (by omega), (upTo_zero _ _ _), (by first | assumption | omega | (exact upTo_eq (d := 0) (k := i) (by omega) (by omega) (by assumption)) | (exact upTo_eq (d := 0) (k := j) (by omega) (by omega) (by assumption))), (by first | assumption | omega | (exact upTo_eq (d := 0) (k := i) (by omega) (by omega) (by assumption)) | (exact upTo_eq (d := 0) (k := j) (by omega) (by omega) (by assumption))), (by first | assumption | omega | (exact upTo_eq (d := 0) (k := i) (by omega) (by omega) (by assumption)) | (exact upTo_eq (d := 0) (k := j) (by omega) (by omega) (by assumption))), (by first | assumption | omega | (exact upTo_eq (d := 0) (k := i) (by omega) (by omega) (by assumption)) | (exact upTo_eq (d := 0) (k := j) (by omega) (by omega) (by assumption))), (by first | assumption | omega | (exact upTo_eq (d := 0) (k := i) (by omega) (by omega) (by assumption)) | (exact upTo_eq (d := 0) (k := j) (by omega) (by omega) (by assumption))), c_59, f_66, f_67⟩
                · -- a round
                  intro m_87 F_88 w_84 hI
                  obtain ⟨k, rfl, sl_89, p_91, p_92, p_93, p_94, p_95, p_96, p_97, c_90, f_98, f_99⟩ := hI
                  rw [← K.Sl.puts sl_89]; clear sl_89
                  have z_100 := c_90.size
                  refine K.KW.seq ?_
                  refine K.KW.seq ?_
                  -- region 14 law.go:34
                  refine K.KW.region ?_
                  refine K.RW.q rfl rfl (K.QR.k (v := .int .i64 ((k : Nat) : Int)) (by kernel_rfl)) ?_
                  refine K.RW.q rfl rfl (K.QR.k (v := .pointer (some ⟨r_2, 2, none⟩)) (by kernel_rfl)) ?_
                  refine K.RW.q rfl rfl (K.QR.ld1 (v := .slice m ma.length cm) rfl rfl (by kernel_rfl) (f_98.cell rfl)) ?_
                  refine K.RW.q rfl rfl (K.QR.len (P := Try.prog) rfl rfl Try.underlying40) ?_
                  by_cases h_101 : (((k : Nat) : Int) : Int) < (((ma.length : Nat) : Int) : Int)
                  ·  -- yes
                    refine K.RW.q rfl rfl (K.QR.nice (v := .bool (decide ((((k : Nat) : Int) : Int) < (((ma.length : Nat) : Int) : Int)))) (by kernel_rfl) (congrArg Value.bool (decide_eq_true h_101))) ?_
                    refine K.RW.nil ?_
                    refine K.thn_normal ?_
                    refine K.KW.ifT rfl ?_
                    refine K.KW.skip ?_
                    refine K.thn_normal ?_
                    refine K.KW.seq ?_
                    refine K.KW.block ?_
                    refine K.KW.seq ?_
                    -- region 16 law.go:35
                    obtain ⟨b_102, of_103, rfl, _⟩ := x3.at_ (by omega)
                    obtain ⟨b_104, of_105, rfl, _⟩ := y3.at_ (by omega)
                    refine K.KW.drawn (fun w => K.Chg K.No w0 w ∧ (w.cell? ⟨r_11, 2, none⟩ = some (.slice (some ⟨b_104, of_105, none⟩) mb.length cm')) ∧ (w.cell? ⟨r_2, 2, none⟩ = some (.slice (some ⟨b_102, of_103, none⟩) ma.length cm))) (by kernel_rfl) ?_
                    intro w_106 e_107 hs_108
                    have c_110 := c_90.no e_107
                    have z_111 := c_110.size
                    have zz_112 := e_107.size
                    have f_113 := f_98.no e_107
                    have f_114 := f_99.no e_107
                    have hS_109 : (fun w => K.Chg K.No w0 w ∧ (w.cell? ⟨r_11, 2, none⟩ = some (.slice (some ⟨b_104, of_105, none⟩) mb.length cm')) ∧ (w.cell? ⟨r_2, 2, none⟩ = some (.slice (some ⟨b_102, of_103, none⟩) ma.length cm))) w_106 := ⟨c_110, ((f_114).cell rfl), ((f_113).cell rfl)⟩
                    refine K.DW.q 0 (by kernel_rfl) rfl rfl (by kernel_rfl) rfl (fun w hS => K.QR.k (v := .pointer (some ⟨r_2, 2, none⟩)) (by kernel_rfl)) hS_109 ?_
                    refine K.DW.q 1 (by kernel_rfl) rfl rfl (by kernel_rfl) rfl (fun w hS => K.QR.ld1 (v := .slice (some ⟨b_102, of_103, none⟩) ma.length cm) rfl rfl (by kernel_rfl) (hS.2.2)) hS_109 ?_
                    refine K.DW.q 2 (by kernel_rfl) rfl rfl (by kernel_rfl) rfl (fun w hS => K.QR.k (v := .int .i64 ((k : Nat) : Int)) (by kernel_rfl)) hS_109 ?_
                    refine K.DW.q 3 (by kernel_rfl) rfl rfl (by kernel_rfl) rfl (fun w hS => K.QR.ix (of_103 + k * 2) 2 rfl rfl rfl Try.underlying40 (by kernel_rfl) (by omega) (by first | (simp; done) | omega | (simp; omega))) hS_109 ?_
                    refine K.DW.q 4 (by kernel_rfl) rfl rfl (by kernel_rfl) rfl (fun w hS => K.QR.ldN [.int .u32 ((ma.getD k p0).key), .int .u32 ((ma.getD k p0).val)] rfl rfl (by kernel_rfl) (by kernel_rfl) (K.cells (K.cl (hS.1.cell (x3.ld k (by omega) 0 _ rfl) id) (K.cl (hS.1.cell (x3.ld k (by omega) 1 _ rfl) id) K.cl0)))) hS_109 ?_
                    refine K.DW.q 5 (by kernel_rfl) rfl rfl (by kernel_rfl) rfl (fun w hS => K.QR.k (v := .pointer (some ⟨r_11, 2, none⟩)) (by kernel_rfl)) hS_109 ?_
                    refine K.DW.q 6 (by kernel_rfl) rfl rfl (by kernel_rfl) rfl (fun w hS => K.QR.ld1 (v := .slice (some ⟨b_104, of_105, none⟩) mb.length cm') rfl rfl (by kernel_rfl) (hS.2.1)) hS_109 ?_
                    refine K.DW.l 7 rfl (by kernel_rfl) rfl (K.OW.q rfl (K.QR.k (v := .int .i64 ((k : Nat) : Int)) (by kernel_rfl)) ?_)
                    refine ⟨.inl hS_109, ?_⟩
                    refine K.DW.l 8 rfl (by kernel_rfl) rfl (K.OW.q rfl (K.QR.ix (of_105 + k * 2) 2 rfl rfl rfl Try.underlying40 (by kernel_rfl) (by omega) (by first | (simp; done) | omega | (simp; omega))) ?_)
                    refine ⟨.inl hS_109, ?_⟩
                    refine K.DW.l 9 rfl (by kernel_rfl) rfl (K.OW.q rfl (K.QR.ldN [.int .u32 ((mb.getD k p0).key), .int .u32 ((mb.getD k p0).val)] rfl rfl (by kernel_rfl) (by kernel_rfl) (K.cells (K.cl (c_110.cell (y3.ld k (by omega) 0 _ rfl) id) (K.cl (c_110.cell (y3.ld k (by omega) 1 _ rfl) id) K.cl0)))) ?_)
                    refine ⟨.inl hS_109, ?_⟩
                    by_cases h_115 : ((ma.getD k p0).key : Int) = (mb.getD k p0).key ∧ ((ma.getD k p0).val : Int) = (mb.getD k p0).val
                    ·  -- yes
                      refine K.DW.l 10 rfl (by kernel_rfl) rfl (K.OW.q rfl (K.QR.neS (by kernel_rfl) rfl rfl rfl (eqPair_t h_115)) ?_)
                      refine ⟨.inl hS_109, ?_⟩
                      refine K.DW.done (by kernel_rfl) ?_
                      refine K.thn_normal ?_
                      refine K.KW.ifF rfl ?_
                      refine K.KW.skip ?_
                      refine K.blk_normal ?_
                      refine K.thn_normal ?_
                      -- region 15 law.go:34
                      refine K.KW.region ?_
                      refine K.RW.q rfl rfl (K.QR.k (v := .int .i64 ((k : Nat) : Int)) (by kernel_rfl)) ?_
                      refine K.RW.q rfl rfl (K.QR.n64 ((((k : Nat) : Int) : Int) + (1 : Int)) ((k + 1 : Nat) : Int) (by kernel_rfl) (by omega)) ?_
                      refine K.RW.q rfl rfl (K.QR.k (v := .int .i64 ((k + 1 : Nat) : Int)) (by kernel_rfl)) ?_
                      refine K.RW.nil ?_
                      refine K.thn_normal ?_
                      refine ⟨_, ?_, k + 1, rfl, ⟨by rfl, by rfl, by rfl, by rfl, by rfl, by rfl, trivial⟩, (by omega), (upTo_succ (by assumption) (by exact pair_eq (by assumption))), (by assumption), (by assumption), (by assumption), (by assumption), (by assumption), c_110, f_113, f_114⟩
                      omega
                    ·  -- no
                      refine K.DW.l 10 rfl (by kernel_rfl) rfl (K.OW.q rfl (K.QR.neS (by kernel_rfl) rfl rfl rfl (eqPair_f h_115)) ?_)
                      refine ⟨.inl hS_109, ?_⟩
                      refine K.DW.done (by kernel_rfl) ?_
                      refine K.thn_normal ?_
                      refine K.KW.ifT rfl ?_
                      refine K.KW.seq ?_
                      -- region 17 law.go:36
                      refine K.KW.region ?_
                      refine K.RW.q rfl rfl (K.QR.k (v := .bool false) (by kernel_rfl)) ?_
                      refine K.RW.nil ?_
                      refine K.thn_normal ?_
                      refine K.KW.ret ?_
                      refine K.blk_ret ?_
                      refine K.thn_ret ?_
                      refine K.thn_ret ?_
                      refine K.blk_ret ?_
                      refine K.thn_ret ?_
                      refine ⟨.inr rfl, rfl, (.bool false), K.res1 rfl rfl, ?_⟩
                      exact ⟨congrArg Value.bool (by first | exact (decide_eq_true ⟨by assumption, by assumption, upTo_eq (d := p0) (k := k) (by assumption) (by omega) (by assumption)⟩).symm | exact (decide_eq_false (fun h => absurd h.1 (by first | exact len_ne (by assumption) | exact get_neU (by assumption)))).symm | exact (decide_eq_false (fun h => absurd h.2.1 (by first | exact len_ne (by assumption) | exact get_neU (by assumption)))).symm | exact (decide_eq_false (fun h => absurd h.2.2 (by first | exact len_ne (by assumption) | exact get_neP (by assumption)))).symm), c_110⟩
                  ·  -- no
                    refine K.RW.q rfl rfl (K.QR.nice (v := .bool (decide ((((k : Nat) : Int) : Int) < (((ma.length : Nat) : Int) : Int)))) (by kernel_rfl) (congrArg Value.bool (decide_eq_false h_101))) ?_
                    refine K.RW.nil ?_
                    refine K.thn_normal ?_
                    refine K.KW.ifF rfl ?_
                    refine K.KW.exit ?_
                    refine K.thn_exit ?_
                    refine K.thn_exit ?_
                    refine K.blk_hit ?_
                    refine K.thn_normal ?_
                    refine K.KW.seq ?_
                    -- region 18 law.go:39
                    refine K.KW.region ?_
                    refine K.RW.q rfl rfl (K.QR.k (v := .bool true) (by kernel_rfl)) ?_
                    refine K.RW.nil ?_
                    refine K.thn_normal ?_
                    refine K.KW.ret ?_
                    refine ⟨.inr rfl, rfl, (.bool true), K.res1 rfl rfl, ?_⟩
                    exact ⟨congrArg Value.bool (by first | exact (decide_eq_true ⟨by assumption, by assumption, upTo_eq (d := p0) (k := k) (by assumption) (by omega) (by assumption)⟩).symm | exact (decide_eq_false (fun h => absurd h.1 (by first | exact len_ne (by assumption) | exact get_neU (by assumption)))).symm | exact (decide_eq_false (fun h => absurd h.2.1 (by first | exact len_ne (by assumption) | exact get_neU (by assumption)))).symm | exact (decide_eq_false (fun h => absurd h.2.2 (by first | exact len_ne (by assumption) | exact get_neP (by assumption)))).symm), c_90⟩
      ·  -- no
        refine K.RW.q rfl (by kernel_rfl) (K.QR.nice (v := .bool ((((ma.length : Nat) : Int) : Int) != (((mb.length : Nat) : Int) : Int))) (by kernel_rfl) (congrArg Value.bool (bne_iff_ne.2 h_22))) ?_
        refine K.RW.q rfl rfl (K.QR.k (v := .bool true) (by kernel_rfl)) ?_
        refine K.RW.nil ?_
        refine K.thn_normal ?_
        refine K.KW.ifT rfl ?_
        refine K.KW.seq ?_
        -- region 2 law.go:22
        refine K.KW.region ?_
        refine K.RW.q rfl rfl (K.QR.k (v := .bool false) (by kernel_rfl)) ?_
        refine K.RW.nil ?_
        refine K.thn_normal ?_
        refine K.KW.ret ?_
        refine K.thn_ret ?_
        refine ⟨.inr rfl, rfl, (.bool false), K.res1 rfl rfl, ?_⟩
        exact ⟨congrArg Value.bool (by first | exact (decide_eq_true ⟨by assumption, by assumption, upTo_eq (d := p0) (k := k) (by assumption) (by omega) (by assumption)⟩).symm | exact (decide_eq_false (fun h => absurd h.1 (by first | exact len_ne (by assumption) | exact get_neU (by assumption)))).symm | exact (decide_eq_false (fun h => absurd h.2.1 (by first | exact len_ne (by assumption) | exact get_neU (by assumption)))).symm | exact (decide_eq_false (fun h => absurd h.2.2 (by first | exact len_ne (by assumption) | exact get_neP (by assumption)))).symm), c_16⟩
    ·  -- no
      refine K.RW.q rfl (by kernel_rfl) (K.QR.nice (v := .bool ((((sa.length : Nat) : Int) : Int) != (((sb.length : Nat) : Int) : Int))) (by kernel_rfl) (congrArg Value.bool (bne_iff_ne.2 h_21))) ?_
      refine K.RW.q rfl rfl (K.QR.k (v := .bool true) (by kernel_rfl)) ?_
      refine K.RW.q rfl rfl (K.QR.k (v := .bool true) (by kernel_rfl)) ?_
      refine K.RW.skip rfl (by kernel_rfl) ?_
      refine K.RW.skip rfl (by kernel_rfl) ?_
      refine K.RW.skip rfl (by kernel_rfl) ?_
      refine K.RW.skip rfl (by kernel_rfl) ?_
      refine K.RW.skip rfl (by kernel_rfl) ?_
      refine K.RW.skip rfl (by kernel_rfl) ?_
      refine K.RW.skip rfl (by kernel_rfl) ?_
      refine K.RW.q rfl rfl (K.QR.k (v := .bool true) (by kernel_rfl)) ?_
      refine K.RW.nil ?_
      refine K.thn_normal ?_
      refine K.KW.ifT rfl ?_
      refine K.KW.seq ?_
      -- region 2 law.go:22
      refine K.KW.region ?_
      refine K.RW.q rfl rfl (K.QR.k (v := .bool false) (by kernel_rfl)) ?_
      refine K.RW.nil ?_
      refine K.thn_normal ?_
      refine K.KW.ret ?_
      refine K.thn_ret ?_
      refine ⟨.inr rfl, rfl, (.bool false), K.res1 rfl rfl, ?_⟩
      exact ⟨congrArg Value.bool (by first | exact (decide_eq_true ⟨by assumption, by assumption, upTo_eq (d := p0) (k := k) (by assumption) (by omega) (by assumption)⟩).symm | exact (decide_eq_false (fun h => absurd h.1 (by first | exact len_ne (by assumption) | exact get_neU (by assumption)))).symm | exact (decide_eq_false (fun h => absurd h.2.1 (by first | exact len_ne (by assumption) | exact get_neU (by assumption)))).symm | exact (decide_eq_false (fun h => absurd h.2.2 (by first | exact len_ne (by assumption) | exact get_neP (by assumption)))).symm), c_16⟩
  ·  -- no
    refine K.RW.q rfl rfl (K.QR.nice (v := .bool ((((qa.length : Nat) : Int) : Int) != (((qb.length : Nat) : Int) : Int))) (by kernel_rfl) (congrArg Value.bool (bne_iff_ne.2 h_20))) ?_
    refine K.RW.q rfl rfl (K.QR.k (v := .bool true) (by kernel_rfl)) ?_
    refine K.RW.skip rfl (by kernel_rfl) ?_
    refine K.RW.skip rfl (by kernel_rfl) ?_
    refine K.RW.skip rfl (by kernel_rfl) ?_
    refine K.RW.skip rfl (by kernel_rfl) ?_
    refine K.RW.skip rfl (by kernel_rfl) ?_
    refine K.RW.skip rfl (by kernel_rfl) ?_
    refine K.RW.skip rfl (by kernel_rfl) ?_
    refine K.RW.q rfl rfl (K.QR.k (v := .bool true) (by kernel_rfl)) ?_
    refine K.RW.q rfl rfl (K.QR.k (v := .bool true) (by kernel_rfl)) ?_
    refine K.RW.skip rfl (by kernel_rfl) ?_
    refine K.RW.skip rfl (by kernel_rfl) ?_
    refine K.RW.skip rfl (by kernel_rfl) ?_
    refine K.RW.skip rfl (by kernel_rfl) ?_
    refine K.RW.skip rfl (by kernel_rfl) ?_
    refine K.RW.skip rfl (by kernel_rfl) ?_
    refine K.RW.skip rfl (by kernel_rfl) ?_
    refine K.RW.q rfl rfl (K.QR.k (v := .bool true) (by kernel_rfl)) ?_
    refine K.RW.nil ?_
    refine K.thn_normal ?_
    refine K.KW.ifT rfl ?_
    refine K.KW.seq ?_
    -- region 2 law.go:22
    refine K.KW.region ?_
    refine K.RW.q rfl rfl (K.QR.k (v := .bool false) (by kernel_rfl)) ?_
    refine K.RW.nil ?_
    refine K.thn_normal ?_
    refine K.KW.ret ?_
    refine K.thn_ret ?_
    refine ⟨.inr rfl, rfl, (.bool false), K.res1 rfl rfl, ?_⟩
    exact ⟨congrArg Value.bool (by first | exact (decide_eq_true ⟨by assumption, by assumption, upTo_eq (d := p0) (k := k) (by assumption) (by omega) (by assumption)⟩).symm | exact (decide_eq_false (fun h => absurd h.1 (by first | exact len_ne (by assumption) | exact get_neU (by assumption)))).symm | exact (decide_eq_false (fun h => absurd h.2.1 (by first | exact len_ne (by assumption) | exact get_neU (by assumption)))).symm | exact (decide_eq_false (fun h => absurd h.2.2 (by first | exact len_ne (by assumption) | exact get_neP (by assumption)))).symm), c_16⟩

end Go.Proofs.Ytgeihjiichdpbaa
