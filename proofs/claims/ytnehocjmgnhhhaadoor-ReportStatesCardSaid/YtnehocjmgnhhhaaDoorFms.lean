import Derived.Test.YtnehocjmgnhhhaaDoorFsl
/- Which states are alike; which may be. -/
namespace Go.Proofs.YtnehocjmgnhhhaaDoor
open Go.RowKit
set_option linter.unusedVariables false
attribute [local irreducible] K.KW K.RW K.DW K.OW K.QR K.KC
theorem eqPair_t {a0 a1 b0 b1 : Int} (h : a0 = b0 ∧ a1 = b1) (w : World) : (Op.equal 92 (.agg #[.int .u32 a0, .int .u32 a1]) (.agg #[.int .u32 b0, .int .u32 b1])).run Tryd.prog w = .ok true w := by
  obtain ⟨rfl, rfl⟩ := h
  simp [go_sem, Op.equal, Op.maxDepth]
theorem eqPair_f {a0 a1 b0 b1 : Int} (h : ¬ (a0 = b0 ∧ a1 = b1)) (w : World) : (Op.equal 92 (.agg #[.int .u32 a0, .int .u32 a1]) (.agg #[.int .u32 b0, .int .u32 b1])).run Tryd.prog w = .ok false w := by
  by_cases h0 : a0 = b0 <;> by_cases h1 : a1 = b1 <;> first | (exfalso; exact h ⟨h0, h1⟩) | simp [go_sem, Op.equal, Op.maxDepth, h0, h1]
def upTo {α : Type} (d : α) (xs ys : List α) (k : Nat) : Prop := ∀ j, j < k → xs.getD j d = ys.getD j d
theorem upTo_zero {α : Type} (d : α) (xs ys : List α) : upTo d xs ys 0 := fun _ h => by omega
theorem upTo_succ {α : Type} {d : α} {xs ys : List α} {k : Nat} (h : upTo d xs ys k) (he : xs.getD k d = ys.getD k d) : upTo d xs ys (k + 1) := fun j hj => by
  rcases Nat.lt_or_ge j k with h' | h'
  · exact h j h'
  · rw [show j = k by omega]; exact he
theorem upTo_eq {α : Type} {d : α} {xs ys : List α} (hl : xs.length = ys.length) {k : Nat} (hk : k = xs.length) (h : upTo d xs ys k) : xs = ys := by
  subst hk
  apply List.ext_getElem hl
  intro j h1 h2
  have := h j h1
  simpa [h1, h2] using this
theorem len_ne {α : Type} {xs ys : List α} (h : ¬ ((xs.length : Nat) : Int) = ((ys.length : Nat) : Int)) : ¬ xs = ys := fun e => h (by rw [e])
theorem get_neU {xs ys : List Int} {k : Nat} (h : ¬ xs.getD k 0 = ys.getD k 0) : ¬ xs = ys := fun e => h (by rw [e])
theorem get_neP {xs ys : List PairM} {k : Nat} (h : ¬ ((xs.getD k p0).key = (ys.getD k p0).key ∧ (xs.getD k p0).val = (ys.getD k p0).val)) : ¬ xs = ys := fun e => h (by rw [e]; exact ⟨rfl, rfl⟩)
theorem pair_eq {p q : PairM} (h : p.key = q.key ∧ p.val = q.val) : p = q := by cases p; cases q; simp_all
set_option maxHeartbeats 1000000 in
set_option maxRecDepth 100000 in
theorem eqU_ok (a a' : Option Addr) (cap cap' : Nat) (xs ys : List Int) (w0 : World) (hm : xs.length ≤ 1000000) (hx : RU32 w0 a xs) (hy : RU32 w0 a' ys) :
    K.KC Tryd.prog 61 #[.slice a xs.length cap, .slice a' ys.length cap'] w0 (fun v w' => v = .bool (decide (xs = ys)) ∧ K.Chg K.No w0 w') := by
  refine K.KC.mk (n := 26) Tryd.func61 rfl rfl [.slice a xs.length cap, .slice a' ys.length cap'] rfl rfl ?_
  refine K.KW.seq ?_
  -- region 0 slices.go:20
  refine K.KW.region ?_
  refine K.RW.q rfl rfl (K.QR.k (v := .bool false) (by kernel_rfl)) ?_
  refine K.RW.nil ?_
  refine K.thn_normal ?_
  refine K.KW.seq ?_
  refine K.KW.seq ?_
  -- region 1 slices.go:21
  refine K.KW.region ?_
  refine K.RW.q rfl rfl (K.QR.k (v := .slice a xs.length cap) (by kernel_rfl)) ?_
  refine K.RW.q rfl rfl (K.QR.len (P := Tryd.prog) rfl rfl Tryd.underlying43) ?_
  refine K.RW.q rfl rfl (K.QR.k (v := .slice a' ys.length cap') (by kernel_rfl)) ?_
  refine K.RW.q rfl rfl (K.QR.len (P := Tryd.prog) rfl rfl Tryd.underlying43) ?_
  by_cases h_1 : (((xs.length : Nat) : Int) : Int) = (((ys.length : Nat) : Int) : Int)
  ·  -- yes
    refine K.RW.q rfl rfl (K.QR.nice (v := .bool ((((xs.length : Nat) : Int) : Int) != (((ys.length : Nat) : Int) : Int))) (by kernel_rfl) (congrArg Value.bool (bne_eq_false_iff_eq.2 h_1))) ?_
    refine K.RW.nil ?_
    refine K.thn_normal ?_
    refine K.KW.ifF rfl ?_
    refine K.KW.skip ?_
    refine K.thn_normal ?_
    refine K.KW.seq ?_
    refine K.KW.seq ?_
    -- region 3 slices.go:24
    refine K.KW.region ?_
    refine K.RW.q rfl rfl (K.QR.k (v := .slice a xs.length cap) (by kernel_rfl)) ?_
    refine K.RW.q rfl rfl (K.QR.len (P := Tryd.prog) rfl rfl Tryd.underlying43) ?_
    refine K.RW.q rfl rfl (K.QR.k (v := .int .i64 0) (by kernel_rfl)) ?_
    refine K.RW.nil ?_
    refine K.thn_normal ?_
    refine K.KW.block ?_
    refine K.KW.loop (fun m_ F_ w_2 => ∃ (k : Nat), m_ = xs.length - k ∧ K.Sl F_ [(0, .slice a xs.length cap), (1, .slice a' ys.length cap'), (12, .int .i64 ((xs.length : Nat) : Int)), (13, .int .i64 ((k : Nat) : Int)), (26, undef)] ∧ k ≤ xs.length ∧ xs.length = ys.length ∧ upTo 0 xs ys k ∧ K.Chg K.No w0 w_2) ((fun (k : Nat) => xs.length - k) 0) ?_ ?_
    · -- the loop begins
      exact ⟨0, rfl, ⟨by rfl, by rfl, by rfl, by rfl, by rfl, trivial⟩, (by omega), (by omega), (upTo_zero _ _ _), (K.Chg.refl _)⟩
    · -- a round
      intro m_3 F_4 w_2 hI
      obtain ⟨k, rfl, sl_5, p_7, p_8, p_9, c_6⟩ := hI
      rw [← K.Sl.puts sl_5]; clear sl_5
      have z_10 := c_6.size
      refine K.KW.seq ?_
      -- region 4 slices.go:24
      refine K.KW.region ?_
      by_cases h_11 : (((k : Nat) : Int) : Int) < (((xs.length : Nat) : Int) : Int)
      ·  -- yes
        refine K.RW.q rfl rfl (K.QR.nice (v := .bool (decide ((((k : Nat) : Int) : Int) < (((xs.length : Nat) : Int) : Int)))) (by kernel_rfl) (congrArg Value.bool (decide_eq_true h_11))) ?_
        refine K.RW.nil ?_
        refine K.thn_normal ?_
        refine K.KW.seq ?_
        refine K.KW.ifT rfl ?_
        refine K.KW.skip ?_
        refine K.thn_normal ?_
        refine K.KW.seq ?_
        refine K.KW.block ?_
        refine K.KW.seq ?_
        -- region 5 slices.go:24
        refine K.KW.region ?_
        refine K.RW.q rfl rfl (K.QR.k (v := .int .i64 ((k : Nat) : Int)) (by kernel_rfl)) ?_
        refine K.RW.q rfl rfl (K.QR.k (v := .int .i64 ((k : Nat) : Int)) (by kernel_rfl)) ?_
        refine K.RW.nil ?_
        refine K.thn_normal ?_
        refine K.KW.seq ?_
        -- region 6 slices.go:25
        obtain ⟨b_12, of_13, rfl, _⟩ := hx.at_ (by omega)
        obtain ⟨b_14, of_15, rfl, _⟩ := hy.at_ (by omega)
        refine K.KW.drawn (fun w => K.Chg K.No w0 w) (by kernel_rfl) ?_
        intro w_16 e_17 hs_18
        have c_20 := c_6.no e_17
        have z_21 := c_20.size
        have zz_22 := e_17.size
        have hS_19 : (fun w => K.Chg K.No w0 w) w_16 := c_20
        refine K.DW.q 0 (by kernel_rfl) rfl rfl (by kernel_rfl) rfl (fun w hS => K.QR.k (v := .slice (some ⟨b_12, of_13, none⟩) xs.length cap) (by kernel_rfl)) hS_19 ?_
        refine K.DW.q 1 (by kernel_rfl) rfl rfl (by kernel_rfl) rfl (fun w hS => K.QR.k (v := .int .i64 ((k : Nat) : Int)) (by kernel_rfl)) hS_19 ?_
        refine K.DW.q 2 (by kernel_rfl) rfl rfl (by kernel_rfl) rfl (fun w hS => K.QR.ix (of_13 + k * 1) 1 rfl rfl rfl Tryd.underlying43 (by kernel_rfl) (by omega) (by first | (simp; done) | omega | (simp; omega))) hS_19 ?_
        refine K.DW.q 3 (by kernel_rfl) rfl rfl (by kernel_rfl) rfl (fun w hS => K.QR.ld1 (v := .int .u32 (xs.getD k 0)) rfl rfl (by kernel_rfl) (hS.cell (hx.ld k (by omega) 0 _ rfl) id)) hS_19 ?_
        refine K.DW.q 4 (by kernel_rfl) rfl rfl (by kernel_rfl) rfl (fun w hS => K.QR.k (v := .slice (some ⟨b_14, of_15, none⟩) ys.length cap') (by kernel_rfl)) hS_19 ?_
        refine K.DW.l 5 rfl (by kernel_rfl) rfl (K.OW.q rfl (K.QR.k (v := .int .i64 ((k : Nat) : Int)) (by kernel_rfl)) ?_)
        refine ⟨.inl hS_19, ?_⟩
        refine K.DW.l 6 rfl (by kernel_rfl) rfl (K.OW.q rfl (K.QR.ix (of_15 + k * 1) 1 rfl rfl rfl Tryd.underlying43 (by kernel_rfl) (by omega) (by first | (simp; done) | omega | (simp; omega))) ?_)
        refine ⟨.inl hS_19, ?_⟩
        refine K.DW.l 7 rfl (by kernel_rfl) rfl (K.OW.q rfl (K.QR.ld1 (v := .int .u32 (ys.getD k 0)) rfl rfl (by kernel_rfl) (c_20.cell (hy.ld k (by omega) 0 _ rfl) id)) ?_)
        refine ⟨.inl hS_19, ?_⟩
        by_cases h_23 : (xs.getD k 0 : Int) = (ys.getD k 0 : Int)
        ·  -- yes
          refine K.DW.l 8 rfl (by kernel_rfl) rfl (K.OW.q rfl (K.QR.nice (v := .bool ((xs.getD k 0 : Int) != (ys.getD k 0 : Int))) (by kernel_rfl) (congrArg Value.bool (bne_eq_false_iff_eq.2 h_23))) ?_)
          refine ⟨.inl hS_19, ?_⟩
          refine K.DW.done (by kernel_rfl) ?_
          refine K.thn_normal ?_
          refine K.KW.ifF rfl ?_
          refine K.KW.skip ?_
          refine K.blk_normal ?_
          refine K.thn_normal ?_
          -- region 8 slices.go:24
          refine K.KW.region ?_
          refine K.RW.q rfl rfl (K.QR.n64 ((((k : Nat) : Int) : Int) + (1 : Int)) ((k + 1 : Nat) : Int) (by kernel_rfl) (by omega)) ?_
          refine K.RW.q rfl rfl (K.QR.k (v := .int .i64 ((k + 1 : Nat) : Int)) (by kernel_rfl)) ?_
          refine K.RW.nil ?_
          refine K.thn_normal ?_
          refine ⟨_, ?_, k + 1, rfl, ⟨by rfl, by rfl, by rfl, by rfl, by rfl, trivial⟩, (by omega), (by omega), (upTo_succ (by assumption) (by assumption)), c_20⟩
          omega
        ·  -- no
          refine K.DW.l 8 rfl (by kernel_rfl) rfl (K.OW.q rfl (K.QR.nice (v := .bool ((xs.getD k 0 : Int) != (ys.getD k 0 : Int))) (by kernel_rfl) (congrArg Value.bool (bne_iff_ne.2 h_23))) ?_)
          refine ⟨.inl hS_19, ?_⟩
          refine K.DW.done (by kernel_rfl) ?_
          refine K.thn_normal ?_
          refine K.KW.ifT rfl ?_
          refine K.KW.seq ?_
          -- region 7 slices.go:26
          refine K.KW.region ?_
          refine K.RW.q rfl rfl (K.QR.k (v := .bool false) (by kernel_rfl)) ?_
          refine K.RW.nil ?_
          refine K.thn_normal ?_
          refine K.KW.ret ?_
          refine K.blk_ret ?_
          refine K.thn_ret ?_
          refine K.thn_ret ?_
          refine K.blk_ret ?_
          refine K.thn_ret ?_
          refine ⟨.inr rfl, rfl, (.bool false), K.res1 rfl rfl, ?_⟩
          exact ⟨congrArg Value.bool (by first | exact (decide_eq_true (upTo_eq (d := 0) (xs := xs) (ys := ys) (k := k) (by assumption) (by omega) (by assumption))).symm | exact (decide_eq_false (len_ne (by assumption))).symm | exact (decide_eq_false (get_neU (by assumption))).symm), c_20⟩
      ·  -- no
        refine K.RW.q rfl rfl (K.QR.nice (v := .bool (decide ((((k : Nat) : Int) : Int) < (((xs.length : Nat) : Int) : Int)))) (by kernel_rfl) (congrArg Value.bool (decide_eq_false h_11))) ?_
        refine K.RW.nil ?_
        refine K.thn_normal ?_
        refine K.KW.seq ?_
        refine K.KW.ifF rfl ?_
        refine K.KW.exit ?_
        refine K.thn_exit ?_
        refine K.thn_exit ?_
        refine K.blk_hit ?_
        refine K.thn_normal ?_
        refine K.KW.seq ?_
        -- region 9 slices.go:29
        refine K.KW.region ?_
        refine K.RW.q rfl rfl (K.QR.k (v := .bool true) (by kernel_rfl)) ?_
        refine K.RW.nil ?_
        refine K.thn_normal ?_
        refine K.KW.ret ?_
        refine ⟨.inr rfl, rfl, (.bool true), K.res1 rfl rfl, ?_⟩
        exact ⟨congrArg Value.bool (by first | exact (decide_eq_true (upTo_eq (d := 0) (xs := xs) (ys := ys) (k := k) (by assumption) (by omega) (by assumption))).symm | exact (decide_eq_false (len_ne (by assumption))).symm | exact (decide_eq_false (get_neU (by assumption))).symm), c_6⟩
  ·  -- no
    refine K.RW.q rfl rfl (K.QR.nice (v := .bool ((((xs.length : Nat) : Int) : Int) != (((ys.length : Nat) : Int) : Int))) (by kernel_rfl) (congrArg Value.bool (bne_iff_ne.2 h_1))) ?_
    refine K.RW.nil ?_
    refine K.thn_normal ?_
    refine K.KW.ifT rfl ?_
    refine K.KW.seq ?_
    -- region 2 slices.go:22
    refine K.KW.region ?_
    refine K.RW.q rfl rfl (K.QR.k (v := .bool false) (by kernel_rfl)) ?_
    refine K.RW.nil ?_
    refine K.thn_normal ?_
    refine K.KW.ret ?_
    refine K.thn_ret ?_
    refine ⟨.inr rfl, rfl, (.bool false), K.res1 rfl rfl, ?_⟩
    exact ⟨congrArg Value.bool (by first | exact (decide_eq_true (upTo_eq (d := 0) (xs := xs) (ys := ys) (k := k) (by assumption) (by omega) (by assumption))).symm | exact (decide_eq_false (len_ne (by assumption))).symm | exact (decide_eq_false (get_neU (by assumption))).symm), (K.Chg.refl _)⟩
set_option maxHeartbeats 1000000 in
set_option maxRecDepth 100000 in
theorem eqP_ok (a a' : Option Addr) (cap cap' : Nat) (xs ys : List PairM) (w0 : World) (hm : xs.length ≤ 1000000) (hx : RPr w0 a xs) (hy : RPr w0 a' ys) :
    K.KC Tryd.prog 62 #[.slice a xs.length cap, .slice a' ys.length cap'] w0 (fun v w' => v = .bool (decide (xs = ys)) ∧ K.Chg K.No w0 w') := by
  refine K.KC.mk (n := 26) Tryd.func62 rfl rfl [.slice a xs.length cap, .slice a' ys.length cap'] rfl rfl ?_
  refine K.KW.seq ?_
  -- region 0 slices.go:20
  refine K.KW.region ?_
  refine K.RW.q rfl rfl (K.QR.k (v := .bool false) (by kernel_rfl)) ?_
  refine K.RW.nil ?_
  refine K.thn_normal ?_
  refine K.KW.seq ?_
  refine K.KW.seq ?_
  -- region 1 slices.go:21
  refine K.KW.region ?_
  refine K.RW.q rfl rfl (K.QR.k (v := .slice a xs.length cap) (by kernel_rfl)) ?_
  refine K.RW.q rfl rfl (K.QR.len (P := Tryd.prog) rfl rfl Tryd.underlying44) ?_
  refine K.RW.q rfl rfl (K.QR.k (v := .slice a' ys.length cap') (by kernel_rfl)) ?_
  refine K.RW.q rfl rfl (K.QR.len (P := Tryd.prog) rfl rfl Tryd.underlying44) ?_
  by_cases h_1 : (((xs.length : Nat) : Int) : Int) = (((ys.length : Nat) : Int) : Int)
  ·  -- yes
    refine K.RW.q rfl rfl (K.QR.nice (v := .bool ((((xs.length : Nat) : Int) : Int) != (((ys.length : Nat) : Int) : Int))) (by kernel_rfl) (congrArg Value.bool (bne_eq_false_iff_eq.2 h_1))) ?_
    refine K.RW.nil ?_
    refine K.thn_normal ?_
    refine K.KW.ifF rfl ?_
    refine K.KW.skip ?_
    refine K.thn_normal ?_
    refine K.KW.seq ?_
    refine K.KW.seq ?_
    -- region 3 slices.go:24
    refine K.KW.region ?_
    refine K.RW.q rfl rfl (K.QR.k (v := .slice a xs.length cap) (by kernel_rfl)) ?_
    refine K.RW.q rfl rfl (K.QR.len (P := Tryd.prog) rfl rfl Tryd.underlying44) ?_
    refine K.RW.q rfl rfl (K.QR.k (v := .int .i64 0) (by kernel_rfl)) ?_
    refine K.RW.nil ?_
    refine K.thn_normal ?_
    refine K.KW.block ?_
    refine K.KW.loop (fun m_ F_ w_2 => ∃ (k : Nat), m_ = xs.length - k ∧ K.Sl F_ [(0, .slice a xs.length cap), (1, .slice a' ys.length cap'), (12, .int .i64 ((xs.length : Nat) : Int)), (13, .int .i64 ((k : Nat) : Int)), (26, undef)] ∧ k ≤ xs.length ∧ xs.length = ys.length ∧ upTo p0 xs ys k ∧ K.Chg K.No w0 w_2) ((fun (k : Nat) => xs.length - k) 0) ?_ ?_
    · -- the loop begins
      exact ⟨0, rfl, ⟨by rfl, by rfl, by rfl, by rfl, by rfl, trivial⟩, (by omega), (by omega), (upTo_zero _ _ _), (K.Chg.refl _)⟩
    · -- a round
      intro m_3 F_4 w_2 hI
      obtain ⟨k, rfl, sl_5, p_7, p_8, p_9, c_6⟩ := hI
      rw [← K.Sl.puts sl_5]; clear sl_5
      have z_10 := c_6.size
      refine K.KW.seq ?_
      -- region 4 slices.go:24
      refine K.KW.region ?_
      by_cases h_11 : (((k : Nat) : Int) : Int) < (((xs.length : Nat) : Int) : Int)
      ·  -- yes
        refine K.RW.q rfl rfl (K.QR.nice (v := .bool (decide ((((k : Nat) : Int) : Int) < (((xs.length : Nat) : Int) : Int)))) (by kernel_rfl) (congrArg Value.bool (decide_eq_true h_11))) ?_
        refine K.RW.nil ?_
        refine K.thn_normal ?_
        refine K.KW.seq ?_
        refine K.KW.ifT rfl ?_
        refine K.KW.skip ?_
        refine K.thn_normal ?_
        refine K.KW.seq ?_
        refine K.KW.block ?_
        refine K.KW.seq ?_
        -- region 5 slices.go:24
        refine K.KW.region ?_
        refine K.RW.q rfl rfl (K.QR.k (v := .int .i64 ((k : Nat) : Int)) (by kernel_rfl)) ?_
        refine K.RW.q rfl rfl (K.QR.k (v := .int .i64 ((k : Nat) : Int)) (by kernel_rfl)) ?_
        refine K.RW.nil ?_
        refine K.thn_normal ?_
        refine K.KW.seq ?_
        -- region 6 slices.go:25
        obtain ⟨b_12, of_13, rfl, _⟩ := hx.at_ (by omega)
        obtain ⟨b_14, of_15, rfl, _⟩ := hy.at_ (by omega)
        refine K.KW.drawn (fun w => K.Chg K.No w0 w) (by kernel_rfl) ?_
        intro w_16 e_17 hs_18
        have c_20 := c_6.no e_17
        have z_21 := c_20.size
        have zz_22 := e_17.size
        have hS_19 : (fun w => K.Chg K.No w0 w) w_16 := c_20
        refine K.DW.q 0 (by kernel_rfl) rfl rfl (by kernel_rfl) rfl (fun w hS => K.QR.k (v := .slice (some ⟨b_12, of_13, none⟩) xs.length cap) (by kernel_rfl)) hS_19 ?_
        refine K.DW.q 1 (by kernel_rfl) rfl rfl (by kernel_rfl) rfl (fun w hS => K.QR.k (v := .int .i64 ((k : Nat) : Int)) (by kernel_rfl)) hS_19 ?_
        refine K.DW.q 2 (by kernel_rfl) rfl rfl (by kernel_rfl) rfl (fun w hS => K.QR.ix (of_13 + k * 2) 2 rfl rfl rfl Tryd.underlying44 (by kernel_rfl) (by omega) (by first | (simp; done) | omega | (simp; omega))) hS_19 ?_
        refine K.DW.q 3 (by kernel_rfl) rfl rfl (by kernel_rfl) rfl (fun w hS => K.QR.ldN [.int .u32 ((xs.getD k p0).key), .int .u32 ((xs.getD k p0).val)] rfl rfl (by kernel_rfl) (by kernel_rfl) (K.cells (K.cl (hS.cell (hx.ld k (by omega) 0 _ rfl) id) (K.cl (hS.cell (hx.ld k (by omega) 1 _ rfl) id) K.cl0)))) hS_19 ?_
        refine K.DW.q 4 (by kernel_rfl) rfl rfl (by kernel_rfl) rfl (fun w hS => K.QR.k (v := .slice (some ⟨b_14, of_15, none⟩) ys.length cap') (by kernel_rfl)) hS_19 ?_
        refine K.DW.l 5 rfl (by kernel_rfl) rfl (K.OW.q rfl (K.QR.k (v := .int .i64 ((k : Nat) : Int)) (by kernel_rfl)) ?_)
        refine ⟨.inl hS_19, ?_⟩
        refine K.DW.l 6 rfl (by kernel_rfl) rfl (K.OW.q rfl (K.QR.ix (of_15 + k * 2) 2 rfl rfl rfl Tryd.underlying44 (by kernel_rfl) (by omega) (by first | (simp; done) | omega | (simp; omega))) ?_)
        refine ⟨.inl hS_19, ?_⟩
        refine K.DW.l 7 rfl (by kernel_rfl) rfl (K.OW.q rfl (K.QR.ldN [.int .u32 ((ys.getD k p0).key), .int .u32 ((ys.getD k p0).val)] rfl rfl (by kernel_rfl) (by kernel_rfl) (K.cells (K.cl (c_20.cell (hy.ld k (by omega) 0 _ rfl) id) (K.cl (c_20.cell (hy.ld k (by omega) 1 _ rfl) id) K.cl0)))) ?_)
        refine ⟨.inl hS_19, ?_⟩
        by_cases h_23 : ((xs.getD k p0).key : Int) = (ys.getD k p0).key ∧ ((xs.getD k p0).val : Int) = (ys.getD k p0).val
        ·  -- yes
          refine K.DW.l 8 rfl (by kernel_rfl) rfl (K.OW.q rfl (K.QR.neS (by kernel_rfl) rfl rfl rfl (eqPair_t h_23)) ?_)
          refine ⟨.inl hS_19, ?_⟩
          refine K.DW.done (by kernel_rfl) ?_
          refine K.thn_normal ?_
          refine K.KW.ifF rfl ?_
          refine K.KW.skip ?_
          refine K.blk_normal ?_
          refine K.thn_normal ?_
          -- region 8 slices.go:24
          refine K.KW.region ?_
          refine K.RW.q rfl rfl (K.QR.n64 ((((k : Nat) : Int) : Int) + (1 : Int)) ((k + 1 : Nat) : Int) (by kernel_rfl) (by omega)) ?_
          refine K.RW.q rfl rfl (K.QR.k (v := .int .i64 ((k + 1 : Nat) : Int)) (by kernel_rfl)) ?_
          refine K.RW.nil ?_
          refine K.thn_normal ?_
          refine ⟨_, ?_, k + 1, rfl, ⟨by rfl, by rfl, by rfl, by rfl, by rfl, trivial⟩, (by omega), (by omega), (upTo_succ (by assumption) (by exact pair_eq (by assumption))), c_20⟩
          omega
        ·  -- no
          refine K.DW.l 8 rfl (by kernel_rfl) rfl (K.OW.q rfl (K.QR.neS (by kernel_rfl) rfl rfl rfl (eqPair_f h_23)) ?_)
          refine ⟨.inl hS_19, ?_⟩
          refine K.DW.done (by kernel_rfl) ?_
          refine K.thn_normal ?_
          refine K.KW.ifT rfl ?_
          refine K.KW.seq ?_
          -- region 7 slices.go:26
          refine K.KW.region ?_
          refine K.RW.q rfl rfl (K.QR.k (v := .bool false) (by kernel_rfl)) ?_
          refine K.RW.nil ?_
          refine K.thn_normal ?_
          refine K.KW.ret ?_
          refine K.blk_ret ?_
          refine K.thn_ret ?_
          refine K.thn_ret ?_
          refine K.blk_ret ?_
          refine K.thn_ret ?_
          refine ⟨.inr rfl, rfl, (.bool false), K.res1 rfl rfl, ?_⟩
          exact ⟨congrArg Value.bool (by first | exact (decide_eq_true (upTo_eq (d := p0) (xs := xs) (ys := ys) (k := k) (by assumption) (by omega) (by assumption))).symm | exact (decide_eq_false (len_ne (by assumption))).symm | exact (decide_eq_false (get_neP (by assumption))).symm), c_20⟩
      ·  -- no
        refine K.RW.q rfl rfl (K.QR.nice (v := .bool (decide ((((k : Nat) : Int) : Int) < (((xs.length : Nat) : Int) : Int)))) (by kernel_rfl) (congrArg Value.bool (decide_eq_false h_11))) ?_
        refine K.RW.nil ?_
        refine K.thn_normal ?_
        refine K.KW.seq ?_
        refine K.KW.ifF rfl ?_
        refine K.KW.exit ?_
        refine K.thn_exit ?_
        refine K.thn_exit ?_
        refine K.blk_hit ?_
        refine K.thn_normal ?_
        refine K.KW.seq ?_
        -- region 9 slices.go:29
        refine K.KW.region ?_
        refine K.RW.q rfl rfl (K.QR.k (v := .bool true) (by kernel_rfl)) ?_
        refine K.RW.nil ?_
        refine K.thn_normal ?_
        refine K.KW.ret ?_
        refine ⟨.inr rfl, rfl, (.bool true), K.res1 rfl rfl, ?_⟩
        exact ⟨congrArg Value.bool (by first | exact (decide_eq_true (upTo_eq (d := p0) (xs := xs) (ys := ys) (k := k) (by assumption) (by omega) (by assumption))).symm | exact (decide_eq_false (len_ne (by assumption))).symm | exact (decide_eq_false (get_neP (by assumption))).symm), c_6⟩
  ·  -- no
    refine K.RW.q rfl rfl (K.QR.nice (v := .bool ((((xs.length : Nat) : Int) : Int) != (((ys.length : Nat) : Int) : Int))) (by kernel_rfl) (congrArg Value.bool (bne_iff_ne.2 h_1))) ?_
    refine K.RW.nil ?_
    refine K.thn_normal ?_
    refine K.KW.ifT rfl ?_
    refine K.KW.seq ?_
    -- region 2 slices.go:22
    refine K.KW.region ?_
    refine K.RW.q rfl rfl (K.QR.k (v := .bool false) (by kernel_rfl)) ?_
    refine K.RW.nil ?_
    refine K.thn_normal ?_
    refine K.KW.ret ?_
    refine K.thn_ret ?_
    refine ⟨.inr rfl, rfl, (.bool false), K.res1 rfl rfl, ?_⟩
    exact ⟨congrArg Value.bool (by first | exact (decide_eq_true (upTo_eq (d := p0) (xs := xs) (ys := ys) (k := k) (by assumption) (by omega) (by assumption))).symm | exact (decide_eq_false (len_ne (by assumption))).symm | exact (decide_eq_false (get_neP (by assumption))).symm), (K.Chg.refl _)⟩
set_option maxHeartbeats 1000000 in
set_option maxRecDepth 100000 in
theorem same8_ok (q s m q' s' m' : Option Addr) (cq cs cm cq' cs' cm' : Nat) (qa sa qb sb : List Int) (ma mb : List PairM) (w0 : World) (h1 : qa.length ≤ 1000) (h2 : sa.length ≤ 1000) (h3 : ma.length ≤ 1000) (x1 : RU32 w0 q qa) (x2 : RU32 w0 s sa) (x3 : RPr w0 m ma) (y1 : RU32 w0 q' qb) (y2 : RU32 w0 s' sb) (y3 : RPr w0 m' mb) :
    K.KC Tryd.prog 20 #[.agg #[.slice q qa.length cq, .slice s sa.length cs, .slice m ma.length cm], .agg #[.slice q' qb.length cq', .slice s' sb.length cs', .slice m' mb.length cm']] w0 (fun v w' => v = .bool (decide (qa = qb ∧ sa = sb ∧ ma = mb)) ∧ K.Chg K.No w0 w') := by
  refine K.KC.mk (n := 24) Tryd.func20 rfl rfl [.agg #[.slice q qa.length cq, .slice s sa.length cs, .slice m ma.length cm], .agg #[.slice q' qb.length cq', .slice s' sb.length cs', .slice m' mb.length cm']] rfl rfl ?_
  refine K.KW.seq ?_
  -- region 0 model.go:134
  refine K.KW.region ?_
  refine K.RW.l rfl (K.OW.new (t := 46) rfl (fun r => .pointer (some ⟨r, 0, none⟩)) [.slice q qa.length cq, .slice s sa.length cs, .slice m ma.length cm] (by kernel_rfl) ?_) 
  intro w_1 r_2 hr_3 e_4 hs_5 b_6
  have c_7 := e_4
  have z_8 := c_7.size
  have zz_9 := e_4.size
  refine K.RW.l rfl (K.OW.new (t := 46) rfl (fun r => .pointer (some ⟨r, 0, none⟩)) [.slice q' qb.length cq', .slice s' sb.length cs', .slice m' mb.length cm'] (by kernel_rfl) ?_) 
  intro w_10 r_11 hr_12 e_13 hs_14 b_15
  have c_16 := c_7.no e_13
  have z_17 := c_16.size
  have zz_18 := e_13.size
  have f_19 := b_6.no e_13
  refine K.RW.q rfl rfl (K.QR.k (v := .bool false) (by kernel_rfl)) ?_
  refine K.RW.nil ?_
  refine K.thn_normal ?_
  refine K.KW.seq ?_
  -- region 1 model.go:135
  refine K.KW.region ?_
  refine K.RW.q rfl rfl (K.QR.k (v := .pointer (some ⟨r_2, 0, none⟩)) (by kernel_rfl)) ?_
  refine K.RW.q rfl rfl (K.QR.ld1 (v := .slice q qa.length cq) rfl rfl (by kernel_rfl) (f_19.cell rfl)) ?_
  refine K.RW.q rfl rfl (K.QR.k (v := .pointer (some ⟨r_11, 0, none⟩)) (by kernel_rfl)) ?_
  refine K.RW.q rfl rfl (K.QR.ld1 (v := .slice q' qb.length cq') rfl rfl (by kernel_rfl) (b_15.cell rfl)) ?_
  refine K.RW.l rfl (K.OW.call rfl [.slice q qa.length cq, .slice q' qb.length cq'] rfl rfl (by kernel_rfl) (eqU_ok _ _ _ _ qa qb _ (by omega) (x1.no c_16) (y1.no c_16)) ?_) 
  rintro v_23 w_21 ⟨hv_22, c_20⟩
  have c_24 := c_16.no c_20
  have z_25 := c_24.size
  have zz_26 := c_20.size
  have f_27 := f_19.no c_20
  have f_28 := b_15.no c_20
  rcases Bool.eq_false_or_eq_true (decide (qa = qb)) with hb_29 | hb_29
  ·  -- True
    rw [hb_29] at hv_22; subst hv_22
    have hp_30 := of_decide_eq_true hb_29
    refine K.RW.q rfl rfl (K.QR.k (v := .bool true) (by kernel_rfl)) ?_
    refine K.RW.q rfl (by kernel_rfl) (K.QR.k (v := .pointer (some ⟨r_2, 1, none⟩)) (by kernel_rfl)) ?_
    refine K.RW.q rfl (by kernel_rfl) (K.QR.ld1 (v := .slice s sa.length cs) rfl rfl (by kernel_rfl) (f_27.cell rfl)) ?_
    refine K.RW.q rfl (by kernel_rfl) (K.QR.k (v := .pointer (some ⟨r_11, 1, none⟩)) (by kernel_rfl)) ?_
    refine K.RW.q rfl (by kernel_rfl) (K.QR.ld1 (v := .slice s' sb.length cs') rfl rfl (by kernel_rfl) (f_28.cell rfl)) ?_
    refine K.RW.l (by kernel_rfl) (K.OW.call rfl [.slice s sa.length cs, .slice s' sb.length cs'] rfl rfl (by kernel_rfl) (eqU_ok _ _ _ _ sa sb _ (by omega) (x2.no c_24) (y2.no c_24)) ?_) 
    rintro v_34 w_32 ⟨hv_33, c_31⟩
    have c_35 := c_24.no c_31
    have z_36 := c_35.size
    have zz_37 := c_31.size
    have f_38 := f_27.no c_31
    have f_39 := f_28.no c_31
    rcases Bool.eq_false_or_eq_true (decide (sa = sb)) with hb_40 | hb_40
    ·  -- True
      rw [hb_40] at hv_33; subst hv_33
      have hp_41 := of_decide_eq_true hb_40
      refine K.RW.q rfl rfl (K.QR.k (v := .bool true) (by kernel_rfl)) ?_
      refine K.RW.q rfl rfl (K.QR.k (v := .bool true) (by kernel_rfl)) ?_
      refine K.RW.q rfl (by kernel_rfl) (K.QR.k (v := .pointer (some ⟨r_2, 2, none⟩)) (by kernel_rfl)) ?_
      refine K.RW.q rfl (by kernel_rfl) (K.QR.ld1 (v := .slice m ma.length cm) rfl rfl (by kernel_rfl) (f_38.cell rfl)) ?_
      refine K.RW.q rfl (by kernel_rfl) (K.QR.k (v := .pointer (some ⟨r_11, 2, none⟩)) (by kernel_rfl)) ?_
      refine K.RW.q rfl (by kernel_rfl) (K.QR.ld1 (v := .slice m' mb.length cm') rfl rfl (by kernel_rfl) (f_39.cell rfl)) ?_
      refine K.RW.l (by kernel_rfl) (K.OW.call rfl [.slice m ma.length cm, .slice m' mb.length cm'] rfl rfl (by kernel_rfl) (eqP_ok _ _ _ _ ma mb _ (by omega) (x3.no c_35) (y3.no c_35)) ?_) 
      rintro v_45 w_43 ⟨hv_44, c_42⟩
      have c_46 := c_35.no c_42
      have z_47 := c_46.size
      have zz_48 := c_42.size
      have f_49 := f_38.no c_42
      have f_50 := f_39.no c_42
      rcases Bool.eq_false_or_eq_true (decide (ma = mb)) with hb_51 | hb_51
      ·  -- True
        rw [hb_51] at hv_44; subst hv_44
        have hp_52 := of_decide_eq_true hb_51
        refine K.RW.q rfl rfl (K.QR.k (v := .bool true) (by kernel_rfl)) ?_
        refine K.RW.q rfl rfl (K.QR.k (v := .bool true) (by kernel_rfl)) ?_
        refine K.RW.nil ?_
        refine K.thn_normal ?_
        refine K.KW.ret ?_
        refine ⟨.inr rfl, rfl, (.bool true), K.res1 rfl rfl, ?_⟩
        exact ⟨congrArg Value.bool (by first | exact (decide_eq_true ⟨by assumption, by assumption, by assumption⟩).symm | exact (decide_eq_false (fun h => absurd h.1 (by assumption))).symm | exact (decide_eq_false (fun h => absurd h.2.1 (by assumption))).symm | exact (decide_eq_false (fun h => absurd h.2.2 (by assumption))).symm), c_46⟩
      ·  -- False
        rw [hb_51] at hv_44; subst hv_44
        have hp_53 := of_decide_eq_false hb_51
        refine K.RW.q rfl rfl (K.QR.k (v := .bool false) (by kernel_rfl)) ?_
        refine K.RW.q rfl rfl (K.QR.k (v := .bool false) (by kernel_rfl)) ?_
        refine K.RW.nil ?_
        refine K.thn_normal ?_
        refine K.KW.ret ?_
        refine ⟨.inr rfl, rfl, (.bool false), K.res1 rfl rfl, ?_⟩
        exact ⟨congrArg Value.bool (by first | exact (decide_eq_true ⟨by assumption, by assumption, by assumption⟩).symm | exact (decide_eq_false (fun h => absurd h.1 (by assumption))).symm | exact (decide_eq_false (fun h => absurd h.2.1 (by assumption))).symm | exact (decide_eq_false (fun h => absurd h.2.2 (by assumption))).symm), c_46⟩
    ·  -- False
      rw [hb_40] at hv_33; subst hv_33
      have hp_54 := of_decide_eq_false hb_40
      refine K.RW.q rfl rfl (K.QR.k (v := .bool false) (by kernel_rfl)) ?_
      refine K.RW.q rfl rfl (K.QR.k (v := .bool false) (by kernel_rfl)) ?_
      refine K.RW.skip rfl (by kernel_rfl) ?_
      refine K.RW.skip rfl (by kernel_rfl) ?_
      refine K.RW.skip rfl (by kernel_rfl) ?_
      refine K.RW.skip rfl (by kernel_rfl) ?_
      refine K.RW.skip rfl (by kernel_rfl) ?_
      refine K.RW.q rfl rfl (K.QR.k (v := .bool false) (by kernel_rfl)) ?_
      refine K.RW.q rfl rfl (K.QR.k (v := .bool false) (by kernel_rfl)) ?_
      refine K.RW.nil ?_
      refine K.thn_normal ?_
      refine K.KW.ret ?_
      refine ⟨.inr rfl, rfl, (.bool false), K.res1 rfl rfl, ?_⟩
      exact ⟨congrArg Value.bool (by first | exact (decide_eq_true ⟨by assumption, by assumption, by assumption⟩).symm | exact (decide_eq_false (fun h => absurd h.1 (by assumption))).symm | exact (decide_eq_false (fun h => absurd h.2.1 (by assumption))).symm | exact (decide_eq_false (fun h => absurd h.2.2 (by assumption))).symm), c_35⟩
  ·  -- False
    rw [hb_29] at hv_22; subst hv_22
    have hp_55 := of_decide_eq_false hb_29
    refine K.RW.q rfl rfl (K.QR.k (v := .bool false) (by kernel_rfl)) ?_
    refine K.RW.skip rfl (by kernel_rfl) ?_
    refine K.RW.skip rfl (by kernel_rfl) ?_
    refine K.RW.skip rfl (by kernel_rfl) ?_
    refine K.RW.skip rfl (by kernel_rfl) ?_
    refine K.RW.skip rfl (by kernel_rfl) ?_
    refine K.RW.q rfl rfl (K.QR.k (v := .bool false) (by kernel_rfl)) ?_
    refine K.RW.q rfl rfl (K.QR.k (v := .bool false) (by kernel_rfl)) ?_
    refine K.RW.skip rfl (by kernel_rfl) ?_
    refine K.RW.skip rfl (by kernel_rfl) ?_
    refine K.RW.skip rfl (by kernel_rfl) ?_
    refine K.RW.skip rfl (by kernel_rfl) ?_
    refine K.RW.skip rfl (by kernel_rfl) ?_
    refine K.RW.q rfl rfl (K.QR.k (v := .bool false) (by kernel_rfl)) ?_
    refine K.RW.q rfl rfl (K.QR.k (v := .bool false) (by kernel_rfl)) ?_
    refine K.RW.nil ?_
    refine K.thn_normal ?_
    refine K.KW.ret ?_
    refine ⟨.inr rfl, rfl, (.bool false), K.res1 rfl rfl, ?_⟩
    exact ⟨congrArg Value.bool (by first | exact (decide_eq_true ⟨by assumption, by assumption, by assumption⟩).symm | exact (decide_eq_false (fun h => absurd h.1 (by assumption))).symm | exact (decide_eq_false (fun h => absurd h.2.1 (by assumption))).symm | exact (decide_eq_false (fun h => absurd h.2.2 (by assumption))).symm), c_24⟩
def risingB (ks : List Int) : Bool := (List.range (ks.length - 1)).all fun i => decide (ks.getD i 0 < ks.getD (i + 1) 0)
theorem rising_lit {ks : List Int} (h : risingB ks = true) : rising ks := fun i hi => by
  have := List.all_eq_true.1 h i (List.mem_range.2 (by omega))
  exact of_decide_eq_true this
theorem risingB_t {ks : List Int} (h : ∀ j, j + 1 < ks.length → ks.getD j 0 < ks.getD (j + 1) 0) : true = risingB ks := by
  unfold risingB
  refine (List.all_eq_true.2 fun i hi => decide_eq_true (h i ?_)).symm
  have := List.mem_range.1 hi; omega
theorem risingB_f {ks : List Int} {j : Nat} (hj : j + 1 < ks.length) (h : ¬ ks.getD j 0 < ks.getD (j + 1) 0) : false = risingB ks := by
  cases hb : risingB ks with
  | false => rfl
  | true => exact absurd (rising_lit hb j hj) h
theorem risingB_tP {xs : List PairM} (h : ∀ j, j + 1 < xs.length → (xs.getD j p0).key < (xs.getD (j + 1) p0).key) : true = risingB (keysP xs) := risingB_t fun j hj => by rw [keysP_get, keysP_get]; exact h j (by rw [keysP_len] at hj; exact hj)
theorem risingB_fP {xs : List PairM} {j : Nat} (hj : j + 1 < xs.length) (h : ¬ (xs.getD j p0).key < (xs.getD (j + 1) p0).key) : false = risingB (keysP xs) := risingB_f (by rw [keysP_len]; exact hj) (by rw [keysP_get, keysP_get]; exact h)
set_option maxHeartbeats 1000000 in
set_option maxRecDepth 100000 in
theorem risesU_ok (a : Option Addr) (cap : Nat) (xs : List Int) (w0 : World) (hm : xs.length ≤ 1000000) (hx : RU32 w0 a xs) :
    K.KC Tryd.prog 80 #[.slice a xs.length cap, .func (.func 81) [].toArray [].toArray] w0 (fun v w' => v = .bool (risingB xs) ∧ K.Chg K.No w0 w') := by
  refine K.KC.mk (n := 26) Tryd.func80 rfl rfl [.slice a xs.length cap, .func (.func 81) [].toArray [].toArray] rfl rfl ?_
  refine K.KW.seq ?_
  -- region 0 model.go:12
  refine K.KW.region ?_
  refine K.RW.q rfl rfl (K.QR.k (v := .bool false) (by kernel_rfl)) ?_
  refine K.RW.nil ?_
  refine K.thn_normal ?_
  refine K.KW.seq ?_
  refine K.KW.seq ?_
  -- region 1 model.go:13
  refine K.KW.region ?_
  refine K.RW.q rfl rfl (K.QR.k (v := .int .i64 1) (by kernel_rfl)) ?_
  refine K.RW.nil ?_
  refine K.thn_normal ?_
  refine K.KW.block ?_
  refine K.KW.loop (fun m_ F_ w_1 => ∃ (k : Nat), m_ = xs.length - k ∧ K.Sl F_ [(0, .slice a xs.length cap), (1, .func (.func 81) [].toArray [].toArray), (5, .int .i64 ((k + 1 : Nat) : Int)), (26, undef)] ∧ ((∀ j, j < k → j + 1 < xs.length → xs.getD j 0 < xs.getD (j + 1) 0)) ∧ K.Chg K.No w0 w_1) ((fun (k : Nat) => xs.length - k) 0) ?_ ?_
  · -- the loop begins
    exact ⟨0, rfl, ⟨by rfl, by rfl, by rfl, by rfl, trivial⟩, (fun j h => by omega), (K.Chg.refl _)⟩
  · -- a round
    intro m_2 F_3 w_1 hI
    obtain ⟨k, rfl, sl_4, p_6, c_5⟩ := hI
    rw [← K.Sl.puts sl_4]; clear sl_4
    have z_7 := c_5.size
    refine K.KW.seq ?_
    refine K.KW.seq ?_
    -- region 2 model.go:13
    refine K.KW.region ?_
    refine K.RW.q rfl rfl (K.QR.k (v := .int .i64 ((k + 1 : Nat) : Int)) (by kernel_rfl)) ?_
    refine K.RW.q rfl rfl (K.QR.k (v := .slice a xs.length cap) (by kernel_rfl)) ?_
    refine K.RW.q rfl rfl (K.QR.len (P := Tryd.prog) rfl rfl Tryd.underlying43) ?_
    by_cases h_8 : (((k + 1 : Nat) : Int) : Int) < (((xs.length : Nat) : Int) : Int)
    ·  -- yes
      refine K.RW.q rfl rfl (K.QR.nice (v := .bool (decide ((((k + 1 : Nat) : Int) : Int) < (((xs.length : Nat) : Int) : Int)))) (by kernel_rfl) (congrArg Value.bool (decide_eq_true h_8))) ?_
      refine K.RW.nil ?_
      refine K.thn_normal ?_
      refine K.KW.ifT rfl ?_
      refine K.KW.skip ?_
      refine K.thn_normal ?_
      refine K.KW.seq ?_
      refine K.KW.block ?_
      refine K.KW.seq ?_
      -- region 4 model.go:14
      obtain ⟨b_9, of_10, rfl, _⟩ := hx.at_ (by omega)
      refine K.KW.drawn (fun w => K.Chg K.No w0 w) (by kernel_rfl) ?_
      intro w_11 e_12 hs_13
      have c_15 := c_5.no e_12
      have z_16 := c_15.size
      have zz_17 := e_12.size
      have hS_14 : (fun w => K.Chg K.No w0 w) w_11 := c_15
      refine K.DW.q 0 (by kernel_rfl) rfl rfl (by kernel_rfl) rfl (fun w hS => K.QR.k (v := .func (.func 81) [].toArray [].toArray) (by kernel_rfl)) hS_14 ?_
      refine K.DW.q 1 (by kernel_rfl) rfl rfl (by kernel_rfl) rfl (fun w hS => K.QR.k (v := .slice (some ⟨b_9, of_10, none⟩) xs.length cap) (by kernel_rfl)) hS_14 ?_
      refine K.DW.q 2 (by kernel_rfl) rfl rfl (by kernel_rfl) rfl (fun w hS => K.QR.k (v := .int .i64 ((k + 1 : Nat) : Int)) (by kernel_rfl)) hS_14 ?_
      refine K.DW.q 3 (by kernel_rfl) rfl rfl (by kernel_rfl) rfl (fun w hS => K.QR.turn (v := .int .i64 ((k + 1 - 1 : Nat) : Int)) (K.QR.n64 ((((k + 1 : Nat) : Int) : Int) - (1 : Int)) ((k + 1 - 1 : Nat) : Int) (by kernel_rfl) (by omega)) (congrArg (Value.int .i64) (show (((k + 1 - 1 : Nat) : Int) : Int) = (((k : Nat) : Int) : Int) from by omega))) hS_14 ?_
      refine K.DW.q 4 (by kernel_rfl) rfl rfl (by kernel_rfl) rfl (fun w hS => K.QR.ix (of_10 + k * 1) 1 rfl rfl rfl Tryd.underlying43 (by kernel_rfl) (by omega) (by first | (simp; done) | omega | (simp; omega))) hS_14 ?_
      refine K.DW.q 5 (by kernel_rfl) rfl rfl (by kernel_rfl) rfl (fun w hS => K.QR.ld1 (v := .int .u32 (xs.getD k 0)) rfl rfl (by kernel_rfl) (hS.cell (hx.ld k (by omega) 0 _ rfl) id)) hS_14 ?_
      refine K.DW.q 7 (by kernel_rfl) rfl rfl (by kernel_rfl) rfl (fun w hS => K.QR.k (v := .func (.func 81) [].toArray [].toArray) (by kernel_rfl)) hS_14 ?_
      refine K.DW.q 8 (by kernel_rfl) rfl rfl (by kernel_rfl) rfl (fun w hS => K.QR.k (v := .slice (some ⟨b_9, of_10, none⟩) xs.length cap) (by kernel_rfl)) hS_14 ?_
      refine K.DW.q 9 (by kernel_rfl) rfl rfl (by kernel_rfl) rfl (fun w hS => K.QR.k (v := .int .i64 ((k + 1 : Nat) : Int)) (by kernel_rfl)) hS_14 ?_
      refine K.DW.q 10 (by kernel_rfl) rfl rfl (by kernel_rfl) rfl (fun w hS => K.QR.ix (of_10 + (k + 1) * 1) 1 rfl rfl rfl Tryd.underlying43 (by kernel_rfl) (by omega) (by first | (simp; done) | omega | (simp; omega))) hS_14 ?_
      refine K.DW.q 11 (by kernel_rfl) rfl rfl (by kernel_rfl) rfl (fun w hS => K.QR.ld1 (v := .int .u32 (xs.getD (k + 1) 0)) rfl rfl (by kernel_rfl) (hS.cell (hx.ld (k + 1) (by omega) 0 _ rfl) id)) hS_14 ?_
      refine K.DW.l 6 rfl (by kernel_rfl) rfl (K.OW.callv rfl [.int .u32 (xs.getD k 0)] rfl rfl rfl (by kernel_rfl) (own_ok (xs.getD k 0) _) ?_)
      rintro _ w_19 ⟨rfl, c_18⟩
      have c_20 := c_15.no c_18
      have z_21 := c_20.size
      have zz_22 := c_18.size
      have hS_23 : (fun w => K.Chg K.No w0 w) w_19 := c_20
      refine ⟨.inl hS_23, ?_⟩
      refine K.DW.l 12 rfl (by kernel_rfl) rfl (K.OW.callv rfl [.int .u32 (xs.getD (k + 1) 0)] rfl rfl rfl (by kernel_rfl) (own_ok (xs.getD (k + 1) 0) _) ?_)
      rintro _ w_25 ⟨rfl, c_24⟩
      have c_26 := c_20.no c_24
      have z_27 := c_26.size
      have zz_28 := c_24.size
      have hS_29 : (fun w => K.Chg K.No w0 w) w_25 := c_26
      refine ⟨.inl hS_29, ?_⟩
      by_cases h_30 : (xs.getD k 0 : Int) ≥ (xs.getD (k + 1) 0 : Int)
      ·  -- yes
        refine K.DW.l 13 rfl (by kernel_rfl) rfl (K.OW.q rfl (K.QR.nice (v := .bool (decide ((xs.getD k 0 : Int) ≥ (xs.getD (k + 1) 0 : Int)))) (by kernel_rfl) (congrArg Value.bool (decide_eq_true h_30))) ?_)
        refine ⟨.inl hS_29, ?_⟩
        refine K.DW.done (by kernel_rfl) ?_
        refine K.thn_normal ?_
        refine K.KW.ifT rfl ?_
        refine K.KW.seq ?_
        -- region 5 model.go:15
        refine K.KW.region ?_
        refine K.RW.q rfl rfl (K.QR.k (v := .bool false) (by kernel_rfl)) ?_
        refine K.RW.nil ?_
        refine K.thn_normal ?_
        refine K.KW.ret ?_
        refine K.blk_ret ?_
        refine K.thn_ret ?_
        refine K.thn_ret ?_
        refine K.blk_ret ?_
        refine K.thn_ret ?_
        refine ⟨.inr rfl, rfl, (.bool false), K.res1 rfl rfl, ?_⟩
        exact ⟨congrArg Value.bool (by first | exact risingB_t fun j hj => (by assumption : ∀ j, j < k → j + 1 < xs.length → xs.getD j 0 < xs.getD (j + 1) 0) j (by omega) hj | exact risingB_f (j := k) (by omega) (by omega)), c_26⟩
      ·  -- no
        refine K.DW.l 13 rfl (by kernel_rfl) rfl (K.OW.q rfl (K.QR.nice (v := .bool (decide ((xs.getD k 0 : Int) ≥ (xs.getD (k + 1) 0 : Int)))) (by kernel_rfl) (congrArg Value.bool (decide_eq_false h_30))) ?_)
        refine ⟨.inl hS_29, ?_⟩
        refine K.DW.done (by kernel_rfl) ?_
        refine K.thn_normal ?_
        refine K.KW.ifF rfl ?_
        refine K.KW.skip ?_
        refine K.blk_normal ?_
        refine K.thn_normal ?_
        -- region 3 model.go:13
        refine K.KW.region ?_
        refine K.RW.q rfl rfl (K.QR.k (v := .int .i64 ((k + 1 : Nat) : Int)) (by kernel_rfl)) ?_
        refine K.RW.q rfl rfl (K.QR.n64 ((((k + 1 : Nat) : Int) : Int) + (1 : Int)) ((k + 1 + 1 : Nat) : Int) (by kernel_rfl) (by omega)) ?_
        refine K.RW.q rfl rfl (K.QR.k (v := .int .i64 ((k + 1 + 1 : Nat) : Int)) (by kernel_rfl)) ?_
        refine K.RW.nil ?_
        refine K.thn_normal ?_
        refine ⟨_, ?_, k + 1, rfl, ⟨by rfl, by rfl, by rfl, by rfl, trivial⟩, (fun j h h2 => by rcases Nat.lt_or_ge j k with h3 | h3 <;> first | exact (by assumption : ∀ j, j < k → j + 1 < xs.length → xs.getD j 0 < xs.getD (j + 1) 0) j h3 h2 | (rw [show j = k by omega]; omega)), c_26⟩
        omega
    ·  -- no
      refine K.RW.q rfl rfl (K.QR.nice (v := .bool (decide ((((k + 1 : Nat) : Int) : Int) < (((xs.length : Nat) : Int) : Int)))) (by kernel_rfl) (congrArg Value.bool (decide_eq_false h_8))) ?_
      refine K.RW.nil ?_
      refine K.thn_normal ?_
      refine K.KW.ifF rfl ?_
      refine K.KW.exit ?_
      refine K.thn_exit ?_
      refine K.thn_exit ?_
      refine K.blk_hit ?_
      refine K.thn_normal ?_
      refine K.KW.seq ?_
      -- region 6 model.go:18
      refine K.KW.region ?_
      refine K.RW.q rfl rfl (K.QR.k (v := .bool true) (by kernel_rfl)) ?_
      refine K.RW.nil ?_
      refine K.thn_normal ?_
      refine K.KW.ret ?_
      refine ⟨.inr rfl, rfl, (.bool true), K.res1 rfl rfl, ?_⟩
      exact ⟨congrArg Value.bool (by first | exact risingB_t fun j hj => (by assumption : ∀ j, j < k → j + 1 < xs.length → xs.getD j 0 < xs.getD (j + 1) 0) j (by omega) hj | exact risingB_f (j := k) (by omega) (by omega)), c_5⟩
set_option maxHeartbeats 1000000 in
set_option maxRecDepth 100000 in
theorem risesP_ok (a : Option Addr) (cap : Nat) (xs : List PairM) (w0 : World) (hm : xs.length ≤ 1000000) (hx : RPr w0 a xs) :
    K.KC Tryd.prog 82 #[.slice a xs.length cap, .func (.func 83) [].toArray [].toArray] w0 (fun v w' => v = .bool (risingB (keysP xs)) ∧ K.Chg K.No w0 w') := by
  refine K.KC.mk (n := 26) Tryd.func82 rfl rfl [.slice a xs.length cap, .func (.func 83) [].toArray [].toArray] rfl rfl ?_
  refine K.KW.seq ?_
  -- region 0 model.go:12
  refine K.KW.region ?_
  refine K.RW.q rfl rfl (K.QR.k (v := .bool false) (by kernel_rfl)) ?_
  refine K.RW.nil ?_
  refine K.thn_normal ?_
  refine K.KW.seq ?_
  refine K.KW.seq ?_
  -- region 1 model.go:13
  refine K.KW.region ?_
  refine K.RW.q rfl rfl (K.QR.k (v := .int .i64 1) (by kernel_rfl)) ?_
  refine K.RW.nil ?_
  refine K.thn_normal ?_
  refine K.KW.block ?_
  refine K.KW.loop (fun m_ F_ w_1 => ∃ (k : Nat), m_ = xs.length - k ∧ K.Sl F_ [(0, .slice a xs.length cap), (1, .func (.func 83) [].toArray [].toArray), (5, .int .i64 ((k + 1 : Nat) : Int)), (26, undef)] ∧ ((∀ j, j < k → j + 1 < xs.length → (xs.getD j p0).key < (xs.getD (j + 1) p0).key)) ∧ K.Chg K.No w0 w_1) ((fun (k : Nat) => xs.length - k) 0) ?_ ?_
  · -- the loop begins
    exact ⟨0, rfl, ⟨by rfl, by rfl, by rfl, by rfl, trivial⟩, (fun j h => by omega), (K.Chg.refl _)⟩
  · -- a round
    intro m_2 F_3 w_1 hI
    obtain ⟨k, rfl, sl_4, p_6, c_5⟩ := hI
    rw [← K.Sl.puts sl_4]; clear sl_4
    have z_7 := c_5.size
    refine K.KW.seq ?_
    refine K.KW.seq ?_
    -- region 2 model.go:13
    refine K.KW.region ?_
    refine K.RW.q rfl rfl (K.QR.k (v := .int .i64 ((k + 1 : Nat) : Int)) (by kernel_rfl)) ?_
    refine K.RW.q rfl rfl (K.QR.k (v := .slice a xs.length cap) (by kernel_rfl)) ?_
    refine K.RW.q rfl rfl (K.QR.len (P := Tryd.prog) rfl rfl Tryd.underlying44) ?_
    by_cases h_8 : (((k + 1 : Nat) : Int) : Int) < (((xs.length : Nat) : Int) : Int)
    ·  -- yes
      refine K.RW.q rfl rfl (K.QR.nice (v := .bool (decide ((((k + 1 : Nat) : Int) : Int) < (((xs.length : Nat) : Int) : Int)))) (by kernel_rfl) (congrArg Value.bool (decide_eq_true h_8))) ?_
      refine K.RW.nil ?_
      refine K.thn_normal ?_
      refine K.KW.ifT rfl ?_
      refine K.KW.skip ?_
      refine K.thn_normal ?_
      refine K.KW.seq ?_
      refine K.KW.block ?_
      refine K.KW.seq ?_
      -- region 4 model.go:14
      obtain ⟨b_9, of_10, rfl, _⟩ := hx.at_ (by omega)
      refine K.KW.drawn (fun w => K.Chg K.No w0 w) (by kernel_rfl) ?_
      intro w_11 e_12 hs_13
      have c_15 := c_5.no e_12
      have z_16 := c_15.size
      have zz_17 := e_12.size
      have hS_14 : (fun w => K.Chg K.No w0 w) w_11 := c_15
      refine K.DW.q 0 (by kernel_rfl) rfl rfl (by kernel_rfl) rfl (fun w hS => K.QR.k (v := .func (.func 83) [].toArray [].toArray) (by kernel_rfl)) hS_14 ?_
      refine K.DW.q 1 (by kernel_rfl) rfl rfl (by kernel_rfl) rfl (fun w hS => K.QR.k (v := .slice (some ⟨b_9, of_10, none⟩) xs.length cap) (by kernel_rfl)) hS_14 ?_
      refine K.DW.q 2 (by kernel_rfl) rfl rfl (by kernel_rfl) rfl (fun w hS => K.QR.k (v := .int .i64 ((k + 1 : Nat) : Int)) (by kernel_rfl)) hS_14 ?_
      refine K.DW.q 3 (by kernel_rfl) rfl rfl (by kernel_rfl) rfl (fun w hS => K.QR.turn (v := .int .i64 ((k + 1 - 1 : Nat) : Int)) (K.QR.n64 ((((k + 1 : Nat) : Int) : Int) - (1 : Int)) ((k + 1 - 1 : Nat) : Int) (by kernel_rfl) (by omega)) (congrArg (Value.int .i64) (show (((k + 1 - 1 : Nat) : Int) : Int) = (((k : Nat) : Int) : Int) from by omega))) hS_14 ?_
      refine K.DW.q 4 (by kernel_rfl) rfl rfl (by kernel_rfl) rfl (fun w hS => K.QR.ix (of_10 + k * 2) 2 rfl rfl rfl Tryd.underlying44 (by kernel_rfl) (by omega) (by first | (simp; done) | omega | (simp; omega))) hS_14 ?_
      refine K.DW.q 5 (by kernel_rfl) rfl rfl (by kernel_rfl) rfl (fun w hS => K.QR.ldN [.int .u32 ((xs.getD k p0).key), .int .u32 ((xs.getD k p0).val)] rfl rfl (by kernel_rfl) (by kernel_rfl) (K.cells (K.cl (hS.cell (hx.ld k (by omega) 0 _ rfl) id) (K.cl (hS.cell (hx.ld k (by omega) 1 _ rfl) id) K.cl0)))) hS_14 ?_
      refine K.DW.q 7 (by kernel_rfl) rfl rfl (by kernel_rfl) rfl (fun w hS => K.QR.k (v := .func (.func 83) [].toArray [].toArray) (by kernel_rfl)) hS_14 ?_
      refine K.DW.q 8 (by kernel_rfl) rfl rfl (by kernel_rfl) rfl (fun w hS => K.QR.k (v := .slice (some ⟨b_9, of_10, none⟩) xs.length cap) (by kernel_rfl)) hS_14 ?_
      refine K.DW.q 9 (by kernel_rfl) rfl rfl (by kernel_rfl) rfl (fun w hS => K.QR.k (v := .int .i64 ((k + 1 : Nat) : Int)) (by kernel_rfl)) hS_14 ?_
      refine K.DW.q 10 (by kernel_rfl) rfl rfl (by kernel_rfl) rfl (fun w hS => K.QR.ix (of_10 + (k + 1) * 2) 2 rfl rfl rfl Tryd.underlying44 (by kernel_rfl) (by omega) (by first | (simp; done) | omega | (simp; omega))) hS_14 ?_
      refine K.DW.q 11 (by kernel_rfl) rfl rfl (by kernel_rfl) rfl (fun w hS => K.QR.ldN [.int .u32 ((xs.getD (k + 1) p0).key), .int .u32 ((xs.getD (k + 1) p0).val)] rfl rfl (by kernel_rfl) (by kernel_rfl) (K.cells (K.cl (hS.cell (hx.ld (k + 1) (by omega) 0 _ rfl) id) (K.cl (hS.cell (hx.ld (k + 1) (by omega) 1 _ rfl) id) K.cl0)))) hS_14 ?_
      refine K.DW.l 6 rfl (by kernel_rfl) rfl (K.OW.callv rfl [.agg #[.int .u32 ((xs.getD k p0).key), .int .u32 ((xs.getD k p0).val)]] rfl rfl rfl (by kernel_rfl) (first_ok ((xs.getD k p0).key) ((xs.getD k p0).val) _) ?_)
      rintro _ w_19 ⟨rfl, c_18⟩
      have c_20 := c_15.no c_18
      have z_21 := c_20.size
      have zz_22 := c_18.size
      have hS_23 : (fun w => K.Chg K.No w0 w) w_19 := c_20
      refine ⟨.inl hS_23, ?_⟩
      refine K.DW.l 12 rfl (by kernel_rfl) rfl (K.OW.callv rfl [.agg #[.int .u32 ((xs.getD (k + 1) p0).key), .int .u32 ((xs.getD (k + 1) p0).val)]] rfl rfl rfl (by kernel_rfl) (first_ok ((xs.getD (k + 1) p0).key) ((xs.getD (k + 1) p0).val) _) ?_)
      rintro _ w_25 ⟨rfl, c_24⟩
      have c_26 := c_20.no c_24
      have z_27 := c_26.size
      have zz_28 := c_24.size
      have hS_29 : (fun w => K.Chg K.No w0 w) w_25 := c_26
      refine ⟨.inl hS_29, ?_⟩
      by_cases h_30 : ((xs.getD k p0).key : Int) ≥ ((xs.getD (k + 1) p0).key : Int)
      ·  -- yes
        refine K.DW.l 13 rfl (by kernel_rfl) rfl (K.OW.q rfl (K.QR.nice (v := .bool (decide (((xs.getD k p0).key : Int) ≥ ((xs.getD (k + 1) p0).key : Int)))) (by kernel_rfl) (congrArg Value.bool (decide_eq_true h_30))) ?_)
        refine ⟨.inl hS_29, ?_⟩
        refine K.DW.done (by kernel_rfl) ?_
        refine K.thn_normal ?_
        refine K.KW.ifT rfl ?_
        refine K.KW.seq ?_
        -- region 5 model.go:15
        refine K.KW.region ?_
        refine K.RW.q rfl rfl (K.QR.k (v := .bool false) (by kernel_rfl)) ?_
        refine K.RW.nil ?_
        refine K.thn_normal ?_
        refine K.KW.ret ?_
        refine K.blk_ret ?_
        refine K.thn_ret ?_
        refine K.thn_ret ?_
        refine K.blk_ret ?_
        refine K.thn_ret ?_
        refine ⟨.inr rfl, rfl, (.bool false), K.res1 rfl rfl, ?_⟩
        exact ⟨congrArg Value.bool (by first | exact risingB_tP fun j hj => (by assumption : ∀ j, j < k → j + 1 < xs.length → (xs.getD j p0).key < (xs.getD (j + 1) p0).key) j (by omega) hj | exact risingB_fP (j := k) (by omega) (by omega)), c_26⟩
      ·  -- no
        refine K.DW.l 13 rfl (by kernel_rfl) rfl (K.OW.q rfl (K.QR.nice (v := .bool (decide (((xs.getD k p0).key : Int) ≥ ((xs.getD (k + 1) p0).key : Int)))) (by kernel_rfl) (congrArg Value.bool (decide_eq_false h_30))) ?_)
        refine ⟨.inl hS_29, ?_⟩
        refine K.DW.done (by kernel_rfl) ?_
        refine K.thn_normal ?_
        refine K.KW.ifF rfl ?_
        refine K.KW.skip ?_
        refine K.blk_normal ?_
        refine K.thn_normal ?_
        -- region 3 model.go:13
        refine K.KW.region ?_
        refine K.RW.q rfl rfl (K.QR.k (v := .int .i64 ((k + 1 : Nat) : Int)) (by kernel_rfl)) ?_
        refine K.RW.q rfl rfl (K.QR.n64 ((((k + 1 : Nat) : Int) : Int) + (1 : Int)) ((k + 1 + 1 : Nat) : Int) (by kernel_rfl) (by omega)) ?_
        refine K.RW.q rfl rfl (K.QR.k (v := .int .i64 ((k + 1 + 1 : Nat) : Int)) (by kernel_rfl)) ?_
        refine K.RW.nil ?_
        refine K.thn_normal ?_
        refine ⟨_, ?_, k + 1, rfl, ⟨by rfl, by rfl, by rfl, by rfl, trivial⟩, (fun j h h2 => by rcases Nat.lt_or_ge j k with h3 | h3 <;> first | exact (by assumption : ∀ j, j < k → j + 1 < xs.length → (xs.getD j p0).key < (xs.getD (j + 1) p0).key) j h3 h2 | (rw [show j = k by omega]; omega)), c_26⟩
        omega
    ·  -- no
      refine K.RW.q rfl rfl (K.QR.nice (v := .bool (decide ((((k + 1 : Nat) : Int) : Int) < (((xs.length : Nat) : Int) : Int)))) (by kernel_rfl) (congrArg Value.bool (decide_eq_false h_8))) ?_
      refine K.RW.nil ?_
      refine K.thn_normal ?_
      refine K.KW.ifF rfl ?_
      refine K.KW.exit ?_
      refine K.thn_exit ?_
      refine K.thn_exit ?_
      refine K.blk_hit ?_
      refine K.thn_normal ?_
      refine K.KW.seq ?_
      -- region 6 model.go:18
      refine K.KW.region ?_
      refine K.RW.q rfl rfl (K.QR.k (v := .bool true) (by kernel_rfl)) ?_
      refine K.RW.nil ?_
      refine K.thn_normal ?_
      refine K.KW.ret ?_
      refine ⟨.inr rfl, rfl, (.bool true), K.res1 rfl rfl, ?_⟩
      exact ⟨congrArg Value.bool (by first | exact risingB_tP fun j hj => (by assumption : ∀ j, j < k → j + 1 < xs.length → (xs.getD j p0).key < (xs.getD (j + 1) p0).key) j (by omega) hj | exact risingB_fP (j := k) (by omega) (by omega)), c_5⟩
set_option maxHeartbeats 1000000 in
set_option maxRecDepth 100000 in
theorem right_ok (q s m : Option Addr) (nq cq cs cm : Nat) (sa : List Int) (ma : List PairM) (w0 : World) (h2 : sa.length ≤ 1000) (h3 : ma.length ≤ 1000) (x2 : RU32 w0 s sa) (x3 : RPr w0 m ma) :
    K.KC Tryd.prog 60 #[.agg #[.slice q nq cq, .slice s sa.length cs, .slice m ma.length cm]] w0 (fun v w' => v = .bool (risingB sa && risingB (keysP ma)) ∧ K.Chg K.No w0 w') := by
  refine K.KC.mk (n := 11) Tryd.func60 rfl rfl [.agg #[.slice q nq cq, .slice s sa.length cs, .slice m ma.length cm]] rfl rfl ?_
  refine K.KW.seq ?_
  -- region 0 model.go:37
  refine K.KW.region ?_
  refine K.RW.l rfl (K.OW.new (t := 46) rfl (fun r => .pointer (some ⟨r, 0, none⟩)) [.slice q nq cq, .slice s sa.length cs, .slice m ma.length cm] (by kernel_rfl) ?_) 
  intro w_1 r_2 hr_3 e_4 hs_5 b_6
  have c_7 := e_4
  have z_8 := c_7.size
  have zz_9 := e_4.size
  refine K.RW.q rfl rfl (K.QR.k (v := .bool false) (by kernel_rfl)) ?_
  refine K.RW.nil ?_
  refine K.thn_normal ?_
  refine K.KW.seq ?_
  -- region 1 model.go:37
  refine K.KW.region ?_
  refine K.RW.q rfl rfl (K.QR.k (v := .pointer (some ⟨r_2, 1, none⟩)) (by kernel_rfl)) ?_
  refine K.RW.q rfl rfl (K.QR.ld1 (v := .slice s sa.length cs) rfl rfl (by kernel_rfl) (b_6.cell rfl)) ?_
  refine K.RW.l rfl (K.OW.call rfl [.slice s sa.length cs, .func (.func 81) [].toArray [].toArray] rfl rfl (by kernel_rfl) (risesU_ok _ _ sa _ (by omega) (x2.no c_7)) ?_) 
  rintro v_13 w_11 ⟨hv_12, c_10⟩
  have c_14 := c_7.no c_10
  have z_15 := c_14.size
  have zz_16 := c_10.size
  have f_17 := b_6.no c_10
  rcases Bool.eq_false_or_eq_true (risingB sa) with hb_18 | hb_18
  ·  -- True
    rw [hb_18] at hv_12; subst hv_12
    refine K.RW.q rfl rfl (K.QR.k (v := .bool true) (by kernel_rfl)) ?_
    refine K.RW.q rfl (by kernel_rfl) (K.QR.k (v := .pointer (some ⟨r_2, 2, none⟩)) (by kernel_rfl)) ?_
    refine K.RW.q rfl (by kernel_rfl) (K.QR.ld1 (v := .slice m ma.length cm) rfl rfl (by kernel_rfl) (f_17.cell rfl)) ?_
    refine K.RW.l (by kernel_rfl) (K.OW.call rfl [.slice m ma.length cm, .func (.func 83) [].toArray [].toArray] rfl rfl (by kernel_rfl) (risesP_ok _ _ ma _ (by omega) (x3.no c_14)) ?_) 
    rintro v_22 w_20 ⟨hv_21, c_19⟩
    have c_23 := c_14.no c_19
    have z_24 := c_23.size
    have zz_25 := c_19.size
    have f_26 := f_17.no c_19
    rcases Bool.eq_false_or_eq_true (risingB (keysP ma)) with hb_27 | hb_27
    ·  -- True
      rw [hb_27] at hv_21; subst hv_21
      refine K.RW.q rfl rfl (K.QR.k (v := .bool true) (by kernel_rfl)) ?_
      refine K.RW.q rfl rfl (K.QR.k (v := .bool true) (by kernel_rfl)) ?_
      refine K.RW.nil ?_
      refine K.thn_normal ?_
      refine K.KW.ret ?_
      refine ⟨.inr rfl, rfl, (.bool true), K.res1 rfl rfl, ?_⟩
      exact ⟨congrArg Value.bool (by first | (rw [(by assumption : risingB sa = true), (by assumption : risingB (keysP ma) = true)]; rfl) | (rw [(by assumption : risingB sa = true), (by assumption : risingB (keysP ma) = false)]; rfl) | (rw [(by assumption : risingB sa = false)]; rfl)), c_23⟩
    ·  -- False
      rw [hb_27] at hv_21; subst hv_21
      refine K.RW.q rfl rfl (K.QR.k (v := .bool false) (by kernel_rfl)) ?_
      refine K.RW.q rfl rfl (K.QR.k (v := .bool false) (by kernel_rfl)) ?_
      refine K.RW.nil ?_
      refine K.thn_normal ?_
      refine K.KW.ret ?_
      refine ⟨.inr rfl, rfl, (.bool false), K.res1 rfl rfl, ?_⟩
      exact ⟨congrArg Value.bool (by first | (rw [(by assumption : risingB sa = true), (by assumption : risingB (keysP ma) = true)]; rfl) | (rw [(by assumption : risingB sa = true), (by assumption : risingB (keysP ma) = false)]; rfl) | (rw [(by assumption : risingB sa = false)]; rfl)), c_23⟩
  ·  -- False
    rw [hb_18] at hv_12; subst hv_12
    refine K.RW.q rfl rfl (K.QR.k (v := .bool false) (by kernel_rfl)) ?_
    refine K.RW.skip rfl (by kernel_rfl) ?_
    refine K.RW.skip rfl (by kernel_rfl) ?_
    refine K.RW.skip rfl (by kernel_rfl) ?_
    refine K.RW.q rfl rfl (K.QR.k (v := .bool false) (by kernel_rfl)) ?_
    refine K.RW.q rfl rfl (K.QR.k (v := .bool false) (by kernel_rfl)) ?_
    refine K.RW.nil ?_
    refine K.thn_normal ?_
    refine K.KW.ret ?_
    refine ⟨.inr rfl, rfl, (.bool false), K.res1 rfl rfl, ?_⟩
    exact ⟨congrArg Value.bool (by first | (rw [(by assumption : risingB sa = true), (by assumption : risingB (keysP ma) = true)]; rfl) | (rw [(by assumption : risingB sa = true), (by assumption : risingB (keysP ma) = false)]; rfl) | (rw [(by assumption : risingB sa = false)]; rfl)), c_14⟩
theorem and_t {a b : Bool} (h : true = a) (h2 : true = b) : true = (a && b) := by rw [← h, ← h2]; rfl
theorem and_f1 {a b : Bool} (h : false = a) : false = (a && b) := by rw [← h]; rfl
theorem and_f2 {a b : Bool} (h : true = a) (h2 : false = b) : false = (a && b) := by rw [← h, ← h2]; rfl
set_option maxHeartbeats 1000000 in
set_option maxRecDepth 100000 in
theorem rright_ok (q s m : Option Addr) (nq cq cs cm : Nat) (sa : List Int) (ma : List PairM) (w0 : World) (h2 : sa.length ≤ 1000) (h3 : ma.length ≤ 1000) (x2 : RU32 w0 s sa) (x3 : RPr w0 m ma) :
    K.KC Tryd.prog 19 #[.agg #[.slice q nq cq, .slice s sa.length cs, .slice m ma.length cm]] w0 (fun v w' => v = .bool (risingB sa && risingB (keysP ma)) ∧ K.Chg K.No w0 w') := by
  refine K.KC.mk (n := 45) Tryd.func19 rfl rfl [.agg #[.slice q nq cq, .slice s sa.length cs, .slice m ma.length cm]] rfl rfl ?_
  refine K.KW.seq ?_
  -- region 0 ref.go:7
  refine K.KW.region ?_
  refine K.RW.l rfl (K.OW.new (t := 46) rfl (fun r => .pointer (some ⟨r, 0, none⟩)) [.slice q nq cq, .slice s sa.length cs, .slice m ma.length cm] (by kernel_rfl) ?_) 
  intro w_1 r_2 hr_3 e_4 hs_5 b_6
  have c_7 := e_4
  have z_8 := c_7.size
  have zz_9 := e_4.size
  refine K.RW.q rfl rfl (K.QR.k (v := .bool false) (by kernel_rfl)) ?_
  refine K.RW.nil ?_
  refine K.thn_normal ?_
  refine K.KW.seq ?_
  refine K.KW.seq ?_
  -- region 1 ref.go:8
  refine K.KW.region ?_
  refine K.RW.q rfl rfl (K.QR.k (v := .int .i64 1) (by kernel_rfl)) ?_
  refine K.RW.nil ?_
  refine K.thn_normal ?_
  refine K.KW.block ?_
  refine K.KW.loop (fun m_ F_ w_10 => ∃ (i : Nat), m_ = sa.length - i ∧ K.Sl F_ [(0, .agg #[.slice q nq cq, .slice s sa.length cs, .slice m ma.length cm]), (1, .pointer (some ⟨r_2, 0, none⟩)), (3, .int .i64 ((i + 1 : Nat) : Int)), (45, undef)] ∧ ((∀ j, j < i → j + 1 < sa.length → sa.getD j 0 < sa.getD (j + 1) 0)) ∧ K.Chg K.No w0 w_10 ∧ K.Blk w_10 r_2 46 [.slice q nq cq, .slice s sa.length cs, .slice m ma.length cm]) ((fun (i : Nat) => sa.length - i) 0) ?_ ?_
  · -- the loop begins
    exact ⟨0, rfl, ⟨by rfl, by rfl, by rfl, by rfl, trivial⟩, (fun j h => by omega), c_7, b_6⟩
  · -- a round
    intro m_12 F_13 w_10 hI
    obtain ⟨i, rfl, sl_14, p_16, c_15, f_17⟩ := hI
    rw [← K.Sl.puts sl_14]; clear sl_14
    have z_18 := c_15.size
    refine K.KW.seq ?_
    refine K.KW.seq ?_
    -- region 2 ref.go:8
    refine K.KW.region ?_
    refine K.RW.q rfl rfl (K.QR.k (v := .int .i64 ((i + 1 : Nat) : Int)) (by kernel_rfl)) ?_
    refine K.RW.q rfl rfl (K.QR.k (v := .pointer (some ⟨r_2, 1, none⟩)) (by kernel_rfl)) ?_
    refine K.RW.q rfl rfl (K.QR.ld1 (v := .slice s sa.length cs) rfl rfl (by kernel_rfl) (f_17.cell rfl)) ?_
    refine K.RW.q rfl rfl (K.QR.len (P := Tryd.prog) rfl rfl Tryd.underlying43) ?_
    by_cases h_19 : (((i + 1 : Nat) : Int) : Int) < (((sa.length : Nat) : Int) : Int)
    ·  -- yes
      refine K.RW.q rfl rfl (K.QR.nice (v := .bool (decide ((((i + 1 : Nat) : Int) : Int) < (((sa.length : Nat) : Int) : Int)))) (by kernel_rfl) (congrArg Value.bool (decide_eq_true h_19))) ?_
      refine K.RW.nil ?_
      refine K.thn_normal ?_
      refine K.KW.ifT rfl ?_
      refine K.KW.skip ?_
      refine K.thn_normal ?_
      refine K.KW.seq ?_
      refine K.KW.block ?_
      refine K.KW.seq ?_
      -- region 4 ref.go:9
      obtain ⟨b_20, of_21, rfl, _⟩ := x2.at_ (by omega)
      refine K.KW.drawn (fun w => K.Chg K.No w0 w ∧ (w.cell? ⟨r_2, 1, none⟩ = some (.slice (some ⟨b_20, of_21, none⟩) sa.length cs))) (by kernel_rfl) ?_
      intro w_22 e_23 hs_24
      have c_26 := c_15.no e_23
      have z_27 := c_26.size
      have zz_28 := e_23.size
      have f_29 := f_17.no e_23
      have hS_25 : (fun w => K.Chg K.No w0 w ∧ (w.cell? ⟨r_2, 1, none⟩ = some (.slice (some ⟨b_20, of_21, none⟩) sa.length cs))) w_22 := ⟨c_26, ((f_29).cell rfl)⟩
      refine K.DW.q 0 (by kernel_rfl) rfl rfl (by kernel_rfl) rfl (fun w hS => K.QR.k (v := .pointer (some ⟨r_2, 1, none⟩)) (by kernel_rfl)) hS_25 ?_
      refine K.DW.q 1 (by kernel_rfl) rfl rfl (by kernel_rfl) rfl (fun w hS => K.QR.ld1 (v := .slice (some ⟨b_20, of_21, none⟩) sa.length cs) rfl rfl (by kernel_rfl) (hS.2)) hS_25 ?_
      refine K.DW.q 2 (by kernel_rfl) rfl rfl (by kernel_rfl) rfl (fun w hS => K.QR.k (v := .int .i64 ((i + 1 : Nat) : Int)) (by kernel_rfl)) hS_25 ?_
      refine K.DW.q 3 (by kernel_rfl) rfl rfl (by kernel_rfl) rfl (fun w hS => K.QR.turn (v := .int .i64 ((i + 1 - 1 : Nat) : Int)) (K.QR.n64 ((((i + 1 : Nat) : Int) : Int) - (1 : Int)) ((i + 1 - 1 : Nat) : Int) (by kernel_rfl) (by omega)) (congrArg (Value.int .i64) (show (((i + 1 - 1 : Nat) : Int) : Int) = (((i : Nat) : Int) : Int) from by omega))) hS_25 ?_
      refine K.DW.q 4 (by kernel_rfl) rfl rfl (by kernel_rfl) rfl (fun w hS => K.QR.ix (of_21 + i * 1) 1 rfl rfl rfl Tryd.underlying43 (by kernel_rfl) (by omega) (by first | (simp; done) | omega | (simp; omega))) hS_25 ?_
      refine K.DW.q 5 (by kernel_rfl) rfl rfl (by kernel_rfl) rfl (fun w hS => K.QR.ld1 (v := .int .u32 (sa.getD i 0)) rfl rfl (by kernel_rfl) (hS.1.cell (x2.ld i (by omega) 0 _ rfl) id)) hS_25 ?_
      refine K.DW.q 6 (by kernel_rfl) rfl rfl (by kernel_rfl) rfl (fun w hS => K.QR.k (v := .pointer (some ⟨r_2, 1, none⟩)) (by kernel_rfl)) hS_25 ?_
      refine K.DW.q 7 (by kernel_rfl) rfl rfl (by kernel_rfl) rfl (fun w hS => K.QR.ld1 (v := .slice (some ⟨b_20, of_21, none⟩) sa.length cs) rfl rfl (by kernel_rfl) (hS.2)) hS_25 ?_
      refine K.DW.l 8 rfl (by kernel_rfl) rfl (K.OW.q rfl (K.QR.k (v := .int .i64 ((i + 1 : Nat) : Int)) (by kernel_rfl)) ?_)
      refine ⟨.inl hS_25, ?_⟩
      refine K.DW.l 9 rfl (by kernel_rfl) rfl (K.OW.q rfl (K.QR.ix (of_21 + (i + 1) * 1) 1 rfl rfl rfl Tryd.underlying43 (by kernel_rfl) (by omega) (by first | (simp; done) | omega | (simp; omega))) ?_)
      refine ⟨.inl hS_25, ?_⟩
      refine K.DW.l 10 rfl (by kernel_rfl) rfl (K.OW.q rfl (K.QR.ld1 (v := .int .u32 (sa.getD (i + 1) 0)) rfl rfl (by kernel_rfl) (c_26.cell (x2.ld (i + 1) (by omega) 0 _ rfl) id)) ?_)
      refine ⟨.inl hS_25, ?_⟩
      by_cases h_30 : (sa.getD i 0 : Int) ≥ (sa.getD (i + 1) 0 : Int)
      ·  -- yes
        refine K.DW.l 11 rfl (by kernel_rfl) rfl (K.OW.q rfl (K.QR.nice (v := .bool (decide ((sa.getD i 0 : Int) ≥ (sa.getD (i + 1) 0 : Int)))) (by kernel_rfl) (congrArg Value.bool (decide_eq_true h_30))) ?_)
        refine ⟨.inl hS_25, ?_⟩
        refine K.DW.done (by kernel_rfl) ?_
        refine K.thn_normal ?_
        refine K.KW.ifT rfl ?_
        refine K.KW.seq ?_
        -- region 5 ref.go:10
        refine K.KW.region ?_
        refine K.RW.q rfl rfl (K.QR.k (v := .bool false) (by kernel_rfl)) ?_
        refine K.RW.nil ?_
        refine K.thn_normal ?_
        refine K.KW.ret ?_
        refine K.blk_ret ?_
        refine K.thn_ret ?_
        refine K.thn_ret ?_
        refine K.blk_ret ?_
        refine K.thn_ret ?_
        refine ⟨.inr rfl, rfl, (.bool false), K.res1 rfl rfl, ?_⟩
        exact ⟨congrArg Value.bool (by first | exact and_t (by assumption) (risingB_tP fun j hj => (by assumption : ∀ j, j < k → j + 1 < ma.length → (ma.getD j p0).key < (ma.getD (j + 1) p0).key) j (by omega) hj) | exact and_f2 (by assumption) (risingB_fP (j := k) (by omega) (by omega)) | exact and_f1 (risingB_f (j := i) (by omega) (by omega))), c_26⟩
      ·  -- no
        refine K.DW.l 11 rfl (by kernel_rfl) rfl (K.OW.q rfl (K.QR.nice (v := .bool (decide ((sa.getD i 0 : Int) ≥ (sa.getD (i + 1) 0 : Int)))) (by kernel_rfl) (congrArg Value.bool (decide_eq_false h_30))) ?_)
        refine ⟨.inl hS_25, ?_⟩
        refine K.DW.done (by kernel_rfl) ?_
        refine K.thn_normal ?_
        refine K.KW.ifF rfl ?_
        refine K.KW.skip ?_
        refine K.blk_normal ?_
        refine K.thn_normal ?_
        -- region 3 ref.go:8
        refine K.KW.region ?_
        refine K.RW.q rfl rfl (K.QR.k (v := .int .i64 ((i + 1 : Nat) : Int)) (by kernel_rfl)) ?_
        refine K.RW.q rfl rfl (K.QR.n64 ((((i + 1 : Nat) : Int) : Int) + (1 : Int)) ((i + 1 + 1 : Nat) : Int) (by kernel_rfl) (by omega)) ?_
        refine K.RW.q rfl rfl (K.QR.k (v := .int .i64 ((i + 1 + 1 : Nat) : Int)) (by kernel_rfl)) ?_
        refine K.RW.nil ?_
        refine K.thn_normal ?_
        refine ⟨_, ?_, i + 1, rfl, ⟨by rfl, by rfl, by rfl, by rfl, trivial⟩, (fun j h h2 => by rcases Nat.lt_or_ge j i with h3 | h3 <;> first | exact (by assumption : ∀ j, j < i → j + 1 < sa.length → sa.getD j 0 < sa.getD (j + 1) 0) j h3 h2 | (rw [show j = i by omega]; omega)), c_26, f_29⟩
        omega
    ·  -- no
      refine K.RW.q rfl rfl (K.QR.nice (v := .bool (decide ((((i + 1 : Nat) : Int) : Int) < (((sa.length : Nat) : Int) : Int)))) (by kernel_rfl) (congrArg Value.bool (decide_eq_false h_19))) ?_
      refine K.RW.nil ?_
      refine K.thn_normal ?_
      refine K.KW.ifF rfl ?_
      refine K.KW.exit ?_
      refine K.thn_exit ?_
      refine K.thn_exit ?_
      refine K.blk_hit ?_
      refine K.thn_normal ?_
      refine K.KW.seq ?_
      refine K.KW.seq ?_
      -- region 6 ref.go:13
      refine K.KW.region ?_
      refine K.RW.q rfl rfl (K.QR.k (v := .int .i64 1) (by kernel_rfl)) ?_
      refine K.RW.nil ?_
      refine K.thn_normal ?_
      refine K.KW.block ?_
      refine K.KW.loop (fun m_ F_ w_31 => ∃ (k : Nat), m_ = ma.length - k ∧ K.Sl F_ [(0, .agg #[.slice q nq cq, .slice s sa.length cs, .slice m ma.length cm]), (1, .pointer (some ⟨r_2, 0, none⟩)), (4, .int .i64 ((k + 1 : Nat) : Int)), (45, undef)] ∧ ((∀ j, j < k → j + 1 < ma.length → (ma.getD j p0).key < (ma.getD (j + 1) p0).key)) ∧ true = risingB sa ∧ K.Chg K.No w0 w_31 ∧ K.Blk w_31 r_2 46 [.slice q nq cq, .slice s sa.length cs, .slice m ma.length cm]) ((fun (k : Nat) => ma.length - k) 0) ?_ ?_
      · -- the loop begins
        exact ⟨0, rfl, ⟨by rfl, by rfl, by rfl, by rfl, trivial⟩, (fun j h => by omega), (by exact risingB_t fun j hj => (by assumption : ∀ j, j < i → j + 1 < sa.length → sa.getD j 0 < sa.getD (j + 1) 0) j (by omega) hj), c_15, f_17⟩
      · -- a round
        intro m_33 F_34 w_31 hI
        obtain ⟨k, rfl, sl_35, p_37, p_38, c_36, f_39⟩ := hI
        rw [← K.Sl.puts sl_35]; clear sl_35
        have z_40 := c_36.size
        refine K.KW.seq ?_
        refine K.KW.seq ?_
        -- region 7 ref.go:13
        refine K.KW.region ?_
        refine K.RW.q rfl rfl (K.QR.k (v := .int .i64 ((k + 1 : Nat) : Int)) (by kernel_rfl)) ?_
        refine K.RW.q rfl rfl (K.QR.k (v := .pointer (some ⟨r_2, 2, none⟩)) (by kernel_rfl)) ?_
        refine K.RW.q rfl rfl (K.QR.ld1 (v := .slice m ma.length cm) rfl rfl (by kernel_rfl) (f_39.cell rfl)) ?_
        refine K.RW.q rfl rfl (K.QR.len (P := Tryd.prog) rfl rfl Tryd.underlying44) ?_
        by_cases h_41 : (((k + 1 : Nat) : Int) : Int) < (((ma.length : Nat) : Int) : Int)
        ·  -- yes
          refine K.RW.q rfl rfl (K.QR.nice (v := .bool (decide ((((k + 1 : Nat) : Int) : Int) < (((ma.length : Nat) : Int) : Int)))) (by kernel_rfl) (congrArg Value.bool (decide_eq_true h_41))) ?_
          refine K.RW.nil ?_
          refine K.thn_normal ?_
          refine K.KW.ifT rfl ?_
          refine K.KW.skip ?_
          refine K.thn_normal ?_
          refine K.KW.seq ?_
          refine K.KW.block ?_
          refine K.KW.seq ?_
          -- region 9 ref.go:14
          obtain ⟨b_42, of_43, rfl, _⟩ := x3.at_ (by omega)
          refine K.KW.drawn (fun w => K.Chg K.No w0 w ∧ (w.cell? ⟨r_2, 2, none⟩ = some (.slice (some ⟨b_42, of_43, none⟩) ma.length cm))) (by kernel_rfl) ?_
          intro w_44 e_45 hs_46
          have c_48 := c_36.no e_45
          have z_49 := c_48.size
          have zz_50 := e_45.size
          have f_51 := f_39.no e_45
          have hS_47 : (fun w => K.Chg K.No w0 w ∧ (w.cell? ⟨r_2, 2, none⟩ = some (.slice (some ⟨b_42, of_43, none⟩) ma.length cm))) w_44 := ⟨c_48, ((f_51).cell rfl)⟩
          refine K.DW.q 0 (by kernel_rfl) rfl rfl (by kernel_rfl) rfl (fun w hS => K.QR.k (v := .pointer (some ⟨r_2, 2, none⟩)) (by kernel_rfl)) hS_47 ?_
          refine K.DW.q 1 (by kernel_rfl) rfl rfl (by kernel_rfl) rfl (fun w hS => K.QR.ld1 (v := .slice (some ⟨b_42, of_43, none⟩) ma.length cm) rfl rfl (by kernel_rfl) (hS.2)) hS_47 ?_
          refine K.DW.q 2 (by kernel_rfl) rfl rfl (by kernel_rfl) rfl (fun w hS => K.QR.k (v := .int .i64 ((k + 1 : Nat) : Int)) (by kernel_rfl)) hS_47 ?_
          refine K.DW.q 3 (by kernel_rfl) rfl rfl (by kernel_rfl) rfl (fun w hS => K.QR.turn (v := .int .i64 ((k + 1 - 1 : Nat) : Int)) (K.QR.n64 ((((k + 1 : Nat) : Int) : Int) - (1 : Int)) ((k + 1 - 1 : Nat) : Int) (by kernel_rfl) (by omega)) (congrArg (Value.int .i64) (show (((k + 1 - 1 : Nat) : Int) : Int) = (((k : Nat) : Int) : Int) from by omega))) hS_47 ?_
          refine K.DW.q 4 (by kernel_rfl) rfl rfl (by kernel_rfl) rfl (fun w hS => K.QR.ix (of_43 + k * 2) 2 rfl rfl rfl Tryd.underlying44 (by kernel_rfl) (by omega) (by first | (simp; done) | omega | (simp; omega))) hS_47 ?_
          refine K.DW.q 5 (by kernel_rfl) rfl rfl (by kernel_rfl) rfl (fun w hS => K.QR.k (v := .pointer (some ⟨b_42, of_43 + k * 2, none⟩)) (by kernel_rfl)) hS_47 ?_
          refine K.DW.q 6 (by kernel_rfl) rfl rfl (by kernel_rfl) rfl (fun w hS => K.QR.ld1 (v := .int .u32 ((ma.getD k p0).key)) rfl rfl (by kernel_rfl) (hS.1.cell (x3.ld k (by omega) 0 _ rfl) id)) hS_47 ?_
          refine K.DW.q 7 (by kernel_rfl) rfl rfl (by kernel_rfl) rfl (fun w hS => K.QR.k (v := .pointer (some ⟨r_2, 2, none⟩)) (by kernel_rfl)) hS_47 ?_
          refine K.DW.q 8 (by kernel_rfl) rfl rfl (by kernel_rfl) rfl (fun w hS => K.QR.ld1 (v := .slice (some ⟨b_42, of_43, none⟩) ma.length cm) rfl rfl (by kernel_rfl) (hS.2)) hS_47 ?_
          refine K.DW.l 9 rfl (by kernel_rfl) rfl (K.OW.q rfl (K.QR.k (v := .int .i64 ((k + 1 : Nat) : Int)) (by kernel_rfl)) ?_)
          refine ⟨.inl hS_47, ?_⟩
          refine K.DW.l 10 rfl (by kernel_rfl) rfl (K.OW.q rfl (K.QR.ix (of_43 + (k + 1) * 2) 2 rfl rfl rfl Tryd.underlying44 (by kernel_rfl) (by omega) (by first | (simp; done) | omega | (simp; omega))) ?_)
          refine ⟨.inl hS_47, ?_⟩
          refine K.DW.l 11 rfl (by kernel_rfl) rfl (K.OW.q rfl (K.QR.k (v := .pointer (some ⟨b_42, of_43 + (k + 1) * 2, none⟩)) (by kernel_rfl)) ?_)
          refine ⟨.inl hS_47, ?_⟩
          refine K.DW.l 12 rfl (by kernel_rfl) rfl (K.OW.q rfl (K.QR.ld1 (v := .int .u32 ((ma.getD (k + 1) p0).key)) rfl rfl (by kernel_rfl) (c_48.cell (x3.ld (k + 1) (by omega) 0 _ rfl) id)) ?_)
          refine ⟨.inl hS_47, ?_⟩
          by_cases h_52 : ((ma.getD k p0).key : Int) ≥ ((ma.getD (k + 1) p0).key : Int)
          ·  -- yes
            refine K.DW.l 13 rfl (by kernel_rfl) rfl (K.OW.q rfl (K.QR.nice (v := .bool (decide (((ma.getD k p0).key : Int) ≥ ((ma.getD (k + 1) p0).key : Int)))) (by kernel_rfl) (congrArg Value.bool (decide_eq_true h_52))) ?_)
            refine ⟨.inl hS_47, ?_⟩
            refine K.DW.done (by kernel_rfl) ?_
            refine K.thn_normal ?_
            refine K.KW.ifT rfl ?_
            refine K.KW.seq ?_
            -- region 10 ref.go:15
            refine K.KW.region ?_
            refine K.RW.q rfl rfl (K.QR.k (v := .bool false) (by kernel_rfl)) ?_
            refine K.RW.nil ?_
            refine K.thn_normal ?_
            refine K.KW.ret ?_
            refine K.blk_ret ?_
            refine K.thn_ret ?_
            refine K.thn_ret ?_
            refine K.blk_ret ?_
            refine K.thn_ret ?_
            refine ⟨.inr rfl, rfl, (.bool false), K.res1 rfl rfl, ?_⟩
            exact ⟨congrArg Value.bool (by first | exact and_t (by assumption) (risingB_tP fun j hj => (by assumption : ∀ j, j < k → j + 1 < ma.length → (ma.getD j p0).key < (ma.getD (j + 1) p0).key) j (by omega) hj) | exact and_f2 (by assumption) (risingB_fP (j := k) (by omega) (by omega)) | exact and_f1 (risingB_f (j := i) (by omega) (by omega))), c_48⟩
          ·  -- no
            refine K.DW.l 13 rfl (by kernel_rfl) rfl (K.OW.q rfl (K.QR.nice (v := .bool (decide (((ma.getD k p0).key : Int) ≥ ((ma.getD (k + 1) p0).key : Int)))) (by kernel_rfl) (congrArg Value.bool (decide_eq_false h_52))) ?_)
            refine ⟨.inl hS_47, ?_⟩
            refine K.DW.done (by kernel_rfl) ?_
            refine K.thn_normal ?_
            refine K.KW.ifF rfl ?_
            refine K.KW.skip ?_
            refine K.blk_normal ?_
            refine K.thn_normal ?_
            -- region 8 ref.go:13
            refine K.KW.region ?_
            refine K.RW.q rfl rfl (K.QR.k (v := .int .i64 ((k + 1 : Nat) : Int)) (by kernel_rfl)) ?_
            refine K.RW.q rfl rfl (K.QR.n64 ((((k + 1 : Nat) : Int) : Int) + (1 : Int)) ((k + 1 + 1 : Nat) : Int) (by kernel_rfl) (by omega)) ?_
            refine K.RW.q rfl rfl (K.QR.k (v := .int .i64 ((k + 1 + 1 : Nat) : Int)) (by kernel_rfl)) ?_
            refine K.RW.nil ?_
            refine K.thn_normal ?_
            refine ⟨_, ?_, k + 1, rfl, ⟨by rfl, by rfl, by rfl, by rfl, trivial⟩, (fun j h h2 => by rcases Nat.lt_or_ge j k with h3 | h3 <;> first | exact (by assumption : ∀ j, j < k → j + 1 < ma.length → (ma.getD j p0).key < (ma.getD (j + 1) p0).key) j h3 h2 | (rw [show j = k by omega]; omega)), (by assumption), c_48, f_51⟩
            omega
        ·  -- no
          refine K.RW.q rfl rfl (K.QR.nice (v := .bool (decide ((((k + 1 : Nat) : Int) : Int) < (((ma.length : Nat) : Int) : Int)))) (by kernel_rfl) (congrArg Value.bool (decide_eq_false h_41))) ?_
          refine K.RW.nil ?_
          refine K.thn_normal ?_
          refine K.KW.ifF rfl ?_
          refine K.KW.exit ?_
          refine K.thn_exit ?_
          refine K.thn_exit ?_
          refine K.blk_hit ?_
          refine K.thn_normal ?_
          refine K.KW.seq ?_
          -- region 11 ref.go:18
          refine K.KW.region ?_
          refine K.RW.q rfl rfl (K.QR.k (v := .bool true) (by kernel_rfl)) ?_
          refine K.RW.nil ?_
          refine K.thn_normal ?_
          refine K.KW.ret ?_
          refine ⟨.inr rfl, rfl, (.bool true), K.res1 rfl rfl, ?_⟩
          exact ⟨congrArg Value.bool (by first | exact and_t (by assumption) (risingB_tP fun j hj => (by assumption : ∀ j, j < k → j + 1 < ma.length → (ma.getD j p0).key < (ma.getD (j + 1) p0).key) j (by omega) hj) | exact and_f2 (by assumption) (risingB_fP (j := k) (by omega) (by omega)) | exact and_f1 (risingB_f (j := i) (by omega) (by omega))), c_36⟩
end Go.Proofs.YtnehocjmgnhhhaaDoor
