/- Contracts of package diff. -/
import Derived.Test.YtcmlompigmhddaaFlist
namespace Go.Proofs.Ytcmlompigmhddaa
open Go.RowKit
set_option linter.unusedVariables false
attribute [local irreducible] K.KW K.RW K.DW K.OW K.QR K.KC

structure Chg3 where
  at_ : Int
  old : Int
  new : Int
  deriving DecidableEq
def d3 : Chg3 := ⟨0, 0, 0⟩
def chgC (c : Chg3) : List Value := [.int .i64 c.at_, .int .u64 c.old, .int .u64 c.new]
abbrev RCh (w : World) (a : Option Addr) (l : List Chg3) : Prop := K.RowE w a l.length 3 (fun i => chgC (l.getD i d3))

theorem eqC_t {a b c a' b' c' : Int} (h : a = a' ∧ b = b' ∧ c = c') (w : World) : (Op.equal 46 (.agg #[.int .i64 a, .int .u64 b, .int .u64 c]) (.agg #[.int .i64 a', .int .u64 b', .int .u64 c'])).run Try.prog w = .ok true w := by
  obtain ⟨rfl, rfl, rfl⟩ := h
  simp [go_sem, Op.equal, Op.maxDepth]
theorem eqC_f {a b c a' b' c' : Int} (h : ¬ (a = a' ∧ b = b' ∧ c = c')) (w : World) : (Op.equal 46 (.agg #[.int .i64 a, .int .u64 b, .int .u64 c]) (.agg #[.int .i64 a', .int .u64 b', .int .u64 c'])).run Try.prog w = .ok false w := by
  by_cases h1 : a = a' <;> by_cases h2 : b = b' <;> by_cases h3 : c = c' <;> first | (exfalso; exact h ⟨h1, h2, h3⟩) | simp [go_sem, Op.equal, Op.maxDepth, h1, h2, h3]

theorem eqR_t {a b c a' b' c' : Int} (h : a = a' ∧ b = b' ∧ c = c') (w : World) : (Op.equal 97 (.agg #[.int .i64 a, .int .u64 b, .int .u64 c]) (.agg #[.int .i64 a', .int .u64 b', .int .u64 c'])).run Try.prog w = .ok true w := by
  obtain ⟨rfl, rfl, rfl⟩ := h
  simp [go_sem, Op.equal, Op.maxDepth]
theorem eqR_f {a b c a' b' c' : Int} (h : ¬ (a = a' ∧ b = b' ∧ c = c')) (w : World) : (Op.equal 97 (.agg #[.int .i64 a, .int .u64 b, .int .u64 c]) (.agg #[.int .i64 a', .int .u64 b', .int .u64 c'])).run Try.prog w = .ok false w := by
  by_cases h1 : a = a' <;> by_cases h2 : b = b' <;> by_cases h3 : c = c' <;> first | (exfalso; exact h ⟨h1, h2, h3⟩) | simp [go_sem, Op.equal, Op.maxDepth, h1, h2, h3]

/-- the changes between xs and ys among the first k words -/
def between (xs ys : List Int) : Nat → List Chg3
  | 0 => []
  | k + 1 => if xs.getD k 0 = ys.getD k 0 then between xs ys k else between xs ys k ++ [⟨k, xs.getD k 0, ys.getD k 0⟩]
theorem between_le (xs ys : List Int) (k : Nat) : (between xs ys k).length ≤ k := by
  induction k with
  | zero => simp [between]
  | succ k ih => unfold between; split <;> first | omega | (simp; omega)
theorem between_eq {xs ys : List Int} {k : Nat} (h : xs.getD k 0 = ys.getD k 0) : between xs ys (k + 1) = between xs ys k := if_pos h
/-- what Between answers -/
def betweenR (xs ys : List Int) : Int × List Chg3 := if xs.length = ys.length then (0, between xs ys xs.length) else (3, [])
theorem betweenR_0 {xs ys : List Int} (h : xs.length = ys.length) : betweenR xs ys = (0, between xs ys xs.length) := if_pos h
theorem betweenR_3 {xs ys : List Int} (h : ¬ xs.length = ys.length) : betweenR xs ys = (3, []) := if_neg h
theorem between_ne {xs ys : List Int} {k : Nat} (h : ¬ xs.getD k 0 = ys.getD k 0) : between xs ys (k + 1) = between xs ys k ++ [⟨k, xs.getD k 0, ys.getD k 0⟩] := if_neg h

set_option maxHeartbeats 1000000 in
set_option maxRecDepth 100000 in
theorem between_ok (a a' : Option Addr) (cap cap' : Nat) (xs ys : List Int) (w0 : World) (hm : xs.length * 24 ≤ 140737488351232) (hm' : ys.length ≤ 9223372036854775807) (hx : RU64 w0 a xs) (hy : RU64 w0 a' ys) :
    K.KC Try.prog 25 #[.slice a xs.length cap, .slice a' ys.length cap'] w0 (fun v w' => ∃ r m c, v = .tuple #[.slice r m c, .int .i64 (betweenR xs ys).1] ∧ K.Chg K.No w0 w' ∧ K.Own w' w0.heap.size 46 3 r m c (((betweenR xs ys).2).flatMap chgC) ∧ (betweenR xs ys).2.length = m) := by
  refine K.KC.mk (n := 42) Try.func25 rfl rfl [.slice a xs.length cap, .slice a' ys.length cap'] rfl rfl ?_
  refine K.KW.seq ?_
  -- region 0 diff.go:17
  refine K.KW.region ?_
  refine K.RW.q rfl rfl (K.QR.k (v := .slice none 0 0) (by kernel_rfl)) ?_
  refine K.RW.q rfl rfl (K.QR.k (v := .int .i64 0) (by kernel_rfl)) ?_
  refine K.RW.nil ?_
  refine K.thn_normal ?_
  refine K.KW.seq ?_
  refine K.KW.seq ?_
  -- region 1 diff.go:18
  refine K.KW.region ?_
  refine K.RW.q rfl rfl (K.QR.k (v := .slice a xs.length cap) (by kernel_rfl)) ?_
  refine K.RW.q rfl rfl (K.QR.len (P := Try.prog) rfl rfl Try.underlying32) ?_
  refine K.RW.q rfl rfl (K.QR.k (v := .slice a' ys.length cap') (by kernel_rfl)) ?_
  refine K.RW.q rfl rfl (K.QR.len (P := Try.prog) rfl rfl Try.underlying32) ?_
  by_cases h_1 : (((xs.length : Nat) : Int) : Int) = (((ys.length : Nat) : Int) : Int)
  ·  -- yes
    refine K.RW.q rfl rfl (K.QR.nice (v := .bool ((((xs.length : Nat) : Int) : Int) != (((ys.length : Nat) : Int) : Int))) (by kernel_rfl) (congrArg Value.bool (bne_eq_false_iff_eq.2 h_1))) ?_
    refine K.RW.nil ?_
    refine K.thn_normal ?_
    refine K.KW.ifF rfl ?_
    refine K.KW.skip ?_
    refine K.thn_normal ?_
    refine K.KW.seq ?_
    -- region 3 diff.go:21
    refine K.KW.region ?_
    refine K.RW.q rfl rfl (K.QR.k (v := .slice none 0 0) (by kernel_rfl)) ?_
    refine K.RW.nil ?_
    refine K.thn_normal ?_
    refine K.KW.seq ?_
    refine K.KW.seq ?_
    -- region 4 diff.go:22
    refine K.KW.region ?_
    refine K.RW.q rfl rfl (K.QR.k (v := .slice a xs.length cap) (by kernel_rfl)) ?_
    refine K.RW.q rfl rfl (K.QR.len (P := Try.prog) rfl rfl Try.underlying32) ?_
    refine K.RW.q rfl rfl (K.QR.k (v := .int .i64 0) (by kernel_rfl)) ?_
    refine K.RW.nil ?_
    refine K.thn_normal ?_
    refine K.KW.block ?_
    refine K.KW.loop (fun m_ F_ w_2 => ∃ (k : Nat) (r : Option Addr) (m1 : Nat) (c1 : Nat), m_ = xs.length - k ∧ K.Sl F_ [(0, .slice a xs.length cap), (1, .slice a' ys.length cap'), (4, .slice none 0 0), (5, .int .i64 0), (6, .slice r m1 c1), (14, .int .i64 ((xs.length : Nat) : Int)), (15, .int .i64 ((k : Nat) : Int))] ∧ k ≤ xs.length ∧ (between xs ys k).length = m1 ∧ m1 ≤ k ∧ xs.length = ys.length ∧ K.Chg K.No w0 w_2 ∧ K.Own w_2 w0.heap.size 46 3 r m1 c1 ((between xs ys k).flatMap chgC)) ((fun (k : Nat) (r : Option Addr) (m1 : Nat) (c1 : Nat) => xs.length - k) 0 none 0 0) ?_ ?_
    · -- the loop begins
      exact ⟨0, none, 0, 0, rfl, ⟨by rfl, by rfl, by rfl, by rfl, by rfl, by rfl, by rfl, trivial⟩, (by omega), (rfl), (by omega), (by omega), (K.Chg.refl _), K.Own.nil _ _ _ _⟩
    · -- a round
      intro m_3 F_4 w_2 hI
      obtain ⟨k, r, m1, c1, rfl, sl_5, p_7, p_8, p_9, p_10, c_6, f_11⟩ := hI
      rw [← K.Sl.puts sl_5]; clear sl_5
      have z_12 := c_6.size
      refine K.KW.seq ?_
      -- region 5 diff.go:22
      refine K.KW.region ?_
      by_cases h_13 : (((k : Nat) : Int) : Int) < (((xs.length : Nat) : Int) : Int)
      ·  -- yes
        refine K.RW.q rfl rfl (K.QR.nice (v := .bool (decide ((((k : Nat) : Int) : Int) < (((xs.length : Nat) : Int) : Int)))) (by kernel_rfl) (congrArg Value.bool (decide_eq_true h_13))) ?_
        refine K.RW.nil ?_
        refine K.thn_normal ?_
        refine K.KW.seq ?_
        refine K.KW.ifT rfl ?_
        refine K.KW.skip ?_
        refine K.thn_normal ?_
        refine K.KW.seq ?_
        refine K.KW.block ?_
        refine K.KW.seq ?_
        -- region 6 diff.go:22
        refine K.KW.region ?_
        refine K.RW.q rfl rfl (K.QR.k (v := .int .i64 ((k : Nat) : Int)) (by kernel_rfl)) ?_
        refine K.RW.q rfl rfl (K.QR.k (v := .int .i64 ((k : Nat) : Int)) (by kernel_rfl)) ?_
        refine K.RW.nil ?_
        refine K.thn_normal ?_
        refine K.KW.seq ?_
        -- region 7 diff.go:23
        obtain ⟨b_14, of_15, rfl, _⟩ := hx.at_ (by omega)
        obtain ⟨b_16, of_17, rfl, _⟩ := hy.at_ (by omega)
        refine K.KW.drawn (fun w => K.Chg K.No w0 w) (by kernel_rfl) ?_
        intro w_18 e_19 hs_20
        have c_22 := c_6.no e_19
        have z_23 := c_22.size
        have f_24 := f_11.no e_19
        have hS_21 : (fun w => K.Chg K.No w0 w) w_18 := c_22
        refine K.DW.q 0 (by kernel_rfl) rfl rfl (by kernel_rfl) rfl (fun w hS => K.QR.k (v := .slice (some ⟨b_14, of_15, none⟩) xs.length cap) (by kernel_rfl)) hS_21 ?_
        refine K.DW.q 1 (by kernel_rfl) rfl rfl (by kernel_rfl) rfl (fun w hS => K.QR.k (v := .int .i64 ((k : Nat) : Int)) (by kernel_rfl)) hS_21 ?_
        refine K.DW.q 2 (by kernel_rfl) rfl rfl (by kernel_rfl) rfl (fun w hS => K.QR.ix (of_15 + k * 1) 1 rfl rfl rfl Try.underlying32 (by kernel_rfl) (by omega) (by simp)) hS_21 ?_
        refine K.DW.q 3 (by kernel_rfl) rfl rfl (by kernel_rfl) rfl (fun w hS => K.QR.ld1 (v := .int .u64 (xs.getD k 0)) rfl rfl (by kernel_rfl) (hS.cell (hx.ld k (by omega) 0 _ rfl) id)) hS_21 ?_
        refine K.DW.q 4 (by kernel_rfl) rfl rfl (by kernel_rfl) rfl (fun w hS => K.QR.k (v := .slice (some ⟨b_16, of_17, none⟩) ys.length cap') (by kernel_rfl)) hS_21 ?_
        refine K.DW.q 5 (by kernel_rfl) rfl rfl (by kernel_rfl) rfl (fun w hS => K.QR.k (v := .int .i64 ((k : Nat) : Int)) (by kernel_rfl)) hS_21 ?_
        refine K.DW.q 6 (by kernel_rfl) rfl rfl (by kernel_rfl) rfl (fun w hS => K.QR.ix (of_17 + k * 1) 1 rfl rfl rfl Try.underlying32 (by kernel_rfl) (by omega) (by simp)) hS_21 ?_
        refine K.DW.q 7 (by kernel_rfl) rfl rfl (by kernel_rfl) rfl (fun w hS => K.QR.ld1 (v := .int .u64 (ys.getD k 0)) rfl rfl (by kernel_rfl) (hS.cell (hy.ld k (by omega) 0 _ rfl) id)) hS_21 ?_
        by_cases h_25 : (xs.getD k 0 : Int) = (ys.getD k 0 : Int)
        ·  -- yes
          refine K.DW.q 8 (by kernel_rfl) rfl rfl (by kernel_rfl) rfl (fun w hS => K.QR.nice (v := .bool ((xs.getD k 0 : Int) != (ys.getD k 0 : Int))) (by kernel_rfl) (congrArg Value.bool (bne_eq_false_iff_eq.2 h_25))) hS_21 ?_
          refine K.DW.done (by kernel_rfl) ?_
          refine K.thn_normal ?_
          refine K.KW.ifF rfl ?_
          refine K.KW.skip ?_
          refine K.blk_normal ?_
          refine K.thn_normal ?_
          -- region 9 diff.go:22
          refine K.KW.region ?_
          refine K.RW.q rfl rfl (K.QR.n64 ((((k : Nat) : Int) : Int) + (1 : Int)) ((k + 1 : Nat) : Int) (by kernel_rfl) (by omega)) ?_
          refine K.RW.q rfl rfl (K.QR.k (v := .int .i64 ((k + 1 : Nat) : Int)) (by kernel_rfl)) ?_
          refine K.RW.nil ?_
          refine K.thn_normal ?_
          refine ⟨_, ?_, k + 1, r, m1, c1, rfl, ⟨by rfl, by rfl, by rfl, by rfl, by rfl, by rfl, by rfl, trivial⟩, (by omega), ((by first | (rw [between_eq (by assumption)]; exact p_8) | (rw [between_ne (by assumption)]; exact p_8))), (by omega), (by omega), c_22, (by first | (rw [between_eq (by assumption)]; exact f_24) | (rw [between_ne (by assumption)]; exact f_24))⟩
          omega
        ·  -- no
          refine K.DW.q 8 (by kernel_rfl) rfl rfl (by kernel_rfl) rfl (fun w hS => K.QR.nice (v := .bool ((xs.getD k 0 : Int) != (ys.getD k 0 : Int))) (by kernel_rfl) (congrArg Value.bool (bne_iff_ne.2 h_25))) hS_21 ?_
          refine K.DW.done (by kernel_rfl) ?_
          refine K.thn_normal ?_
          refine K.KW.ifT rfl ?_
          -- region 8 diff.go:24
          refine K.KW.drawn (fun w => K.Chg K.No w0 w) (by kernel_rfl) ?_
          intro w_26 e_27 hs_28
          have c_30 := c_22.no e_27
          have z_31 := c_30.size
          have f_32 := f_24.no e_27
          have hS_29 : (fun w => K.Chg K.No w0 w) w_26 := c_30
          refine K.DW.q 0 (by kernel_rfl) rfl rfl (by kernel_rfl) rfl (fun w hS => K.QR.k (v := .slice r m1 c1) (by kernel_rfl)) hS_29 ?_
          refine K.DW.q 1 (by kernel_rfl) rfl rfl (by kernel_rfl) rfl (fun w hS => K.QR.k (v := .int .i64 ((k : Nat) : Int)) (by kernel_rfl)) hS_29 ?_
          refine K.DW.q 2 (by kernel_rfl) rfl rfl (by kernel_rfl) rfl (fun w hS => K.QR.k (v := .slice (some ⟨b_14, of_15, none⟩) xs.length cap) (by kernel_rfl)) hS_29 ?_
          refine K.DW.q 3 (by kernel_rfl) rfl rfl (by kernel_rfl) rfl (fun w hS => K.QR.k (v := .int .i64 ((k : Nat) : Int)) (by kernel_rfl)) hS_29 ?_
          refine K.DW.q 4 (by kernel_rfl) rfl rfl (by kernel_rfl) rfl (fun w hS => K.QR.ix (of_15 + k * 1) 1 rfl rfl rfl Try.underlying32 (by kernel_rfl) (by omega) (by simp)) hS_29 ?_
          refine K.DW.q 5 (by kernel_rfl) rfl rfl (by kernel_rfl) rfl (fun w hS => K.QR.ld1 (v := .int .u64 (xs.getD k 0)) rfl rfl (by kernel_rfl) (hS.cell (hx.ld k (by omega) 0 _ rfl) id)) hS_29 ?_
          refine K.DW.q 6 (by kernel_rfl) rfl rfl (by kernel_rfl) rfl (fun w hS => K.QR.k (v := .slice (some ⟨b_16, of_17, none⟩) ys.length cap') (by kernel_rfl)) hS_29 ?_
          refine K.DW.q 7 (by kernel_rfl) rfl rfl (by kernel_rfl) rfl (fun w hS => K.QR.k (v := .int .i64 ((k : Nat) : Int)) (by kernel_rfl)) hS_29 ?_
          refine K.DW.q 8 (by kernel_rfl) rfl rfl (by kernel_rfl) rfl (fun w hS => K.QR.ix (of_17 + k * 1) 1 rfl rfl rfl Try.underlying32 (by kernel_rfl) (by omega) (by simp)) hS_29 ?_
          refine K.DW.q 9 (by kernel_rfl) rfl rfl (by kernel_rfl) rfl (fun w hS => K.QR.ld1 (v := .int .u64 (ys.getD k 0)) rfl rfl (by kernel_rfl) (hS.cell (hy.ld k (by omega) 0 _ rfl) id)) hS_29 ?_
          refine K.DW.q 10 (by kernel_rfl) rfl rfl (by kernel_rfl) rfl (fun w hS => K.QR.bd [(0, .int .i64 ((k : Nat) : Int)), (1, .int .u64 (xs.getD k 0)), (2, .int .u64 (ys.getD k 0))] [.int .i64 ((k : Nat) : Int), .int .u64 (xs.getD k 0), .int .u64 (ys.getD k 0)] rfl rfl (by kernel_rfl)) hS_29 ?_
          refine K.DW.l 11 rfl (by kernel_rfl) rfl (K.OW.bs rfl [(0, .agg #[.int .i64 ((k : Nat) : Int), .int .u64 (xs.getD k 0), .int .u64 (ys.getD k 0)])] [.int .i64 ((k : Nat) : Int), .int .u64 (xs.getD k 0), .int .u64 (ys.getD k 0)] rfl rfl (fun w => K.bs_run (P := Try.prog) w 42 46 1 _ _ Try.underlying42 (by kernel_rfl)) ?_)
          intro w_33 r_34 hr_35 e_36 hs_37 b_38
          have c_39 := c_30.no e_36
          have z_40 := c_39.size
          have f_41 := f_32.no e_36
          have ap_42 : ∀ k, K.Ow r k → ¬ k = r_34 := fun k hk he => absurd (f_32.lt k hk) (by omega)
          have hS_43 : (fun w => K.Chg K.No w0 w) w_33 := c_39
          refine ⟨hS_43, ?_⟩
          refine K.DW.l 12 rfl (by kernel_rfl) rfl (K.OW.app (P := Try.prog) (xs := ((between xs ys k)).flatMap chgC) (z := .agg #[.int .i64 0, .int .u64 0, .int .u64 0]) (size := 3) (bytes := 24) rfl [.int .i64 ((k : Nat) : Int), .int .u64 (xs.getD k 0), .int .u64 (ys.getD k 0)] rfl rfl f_41 rfl Try.underlying42 (by kernel_rfl) rfl (by decide) (by rfl) (fun j u hj => (by rw [Nat.zero_add]; exact b_38.cell hj)) (K.one_cells (by rfl)) (by unfold maxLen; omega) (by omega) (by omega) ?_)
          intro a_44 cap_45 w_46 e_47 o_48
          have c_49 := c_39.trans e_47 (fun i hi hy => absurd (f_41.base_le i hy) (by omega))
          have z_50 := c_49.size
          have o_48t := K.Own.snoc (c := chgC) (L := (between xs ys k)) (⟨((k : Nat) : Int), xs.getD k 0, ys.getD k 0⟩ : Chg3) rfl o_48
          have ln_51 : (((between xs ys k) ++ [(⟨((k : Nat) : Int), xs.getD k 0, ys.getD k 0⟩ : Chg3)])).length = m1 + 1 := by rw [List.length_append, p_8]; rfl
          have hS_52 : (fun w => K.Chg K.No w0 w) w_46 := c_49
          refine ⟨hS_52, ?_⟩
          refine K.DW.q 13 (by kernel_rfl) rfl rfl (by kernel_rfl) rfl (fun w hS => K.QR.k (v := .slice a_44 (m1 + 1) cap_45) (by kernel_rfl)) hS_52 ?_
          refine K.DW.done (by kernel_rfl) ?_
          refine K.blk_normal ?_
          refine K.thn_normal ?_
          -- region 9 diff.go:22
          refine K.KW.region ?_
          refine K.RW.q rfl rfl (K.QR.n64 ((((k : Nat) : Int) : Int) + (1 : Int)) ((k + 1 : Nat) : Int) (by kernel_rfl) (by omega)) ?_
          refine K.RW.q rfl rfl (K.QR.k (v := .int .i64 ((k + 1 : Nat) : Int)) (by kernel_rfl)) ?_
          refine K.RW.nil ?_
          refine K.thn_normal ?_
          refine ⟨_, ?_, k + 1, a_44, m1 + 1, cap_45, rfl, ⟨by rfl, by rfl, by rfl, by rfl, by rfl, by rfl, by rfl, trivial⟩, (by omega), ((by first | (rw [between_eq (by assumption)]; exact ln_51) | (rw [between_ne (by assumption)]; exact ln_51))), (by omega), (by omega), c_49, (by first | (rw [between_eq (by assumption)]; exact o_48t) | (rw [between_ne (by assumption)]; exact o_48t))⟩
          omega
      ·  -- no
        refine K.RW.q rfl rfl (K.QR.nice (v := .bool (decide ((((k : Nat) : Int) : Int) < (((xs.length : Nat) : Int) : Int)))) (by kernel_rfl) (congrArg Value.bool (decide_eq_false h_13))) ?_
        refine K.RW.nil ?_
        refine K.thn_normal ?_
        refine K.KW.seq ?_
        refine K.KW.ifF rfl ?_
        refine K.KW.exit ?_
        refine K.thn_exit ?_
        refine K.thn_exit ?_
        refine K.blk_hit ?_
        refine K.thn_normal ?_
        refine K.KW.seq ?_
        -- region 10 diff.go:27
        refine K.KW.region ?_
        refine K.RW.q rfl rfl (K.QR.k (v := .slice r m1 c1) (by kernel_rfl)) ?_
        refine K.RW.q rfl rfl (K.QR.k (v := .slice r m1 c1) (by kernel_rfl)) ?_
        refine K.RW.q rfl rfl (K.QR.k (v := .int .i64 0) (by kernel_rfl)) ?_
        refine K.RW.nil ?_
        refine K.thn_normal ?_
        refine K.KW.ret ?_
        refine ⟨.inr rfl, (.tuple #[.slice r m1 c1, .int .i64 0]), K.res2 rfl rfl rfl, ?_⟩
        obtain rfl : k = xs.length := by omega
        rw [betweenR_0 (by omega)]
        exact ⟨_, _, _, rfl, c_6, f_11, p_8⟩
  ·  -- no
    refine K.RW.q rfl rfl (K.QR.nice (v := .bool ((((xs.length : Nat) : Int) : Int) != (((ys.length : Nat) : Int) : Int))) (by kernel_rfl) (congrArg Value.bool (bne_iff_ne.2 h_1))) ?_
    refine K.RW.nil ?_
    refine K.thn_normal ?_
    refine K.KW.ifT rfl ?_
    refine K.KW.seq ?_
    -- region 2 diff.go:19
    refine K.KW.region ?_
    refine K.RW.q rfl rfl (K.QR.k (v := .slice none 0 0) (by kernel_rfl)) ?_
    refine K.RW.q rfl rfl (K.QR.k (v := .int .i64 3) (by kernel_rfl)) ?_
    refine K.RW.nil ?_
    refine K.thn_normal ?_
    refine K.KW.ret ?_
    refine K.thn_ret ?_
    refine ⟨.inr rfl, (.tuple #[.slice none 0 0, .int .i64 3]), K.res2 rfl rfl rfl, ?_⟩
    rw [betweenR_3 (by omega)]
    exact ⟨_, _, _, rfl, (K.Chg.refl _), K.Own.nil _ _ _ _, rfl⟩

def rightAt (l : List Chg3) (i : Nat) : Prop := ¬ (l.getD i d3).at_ < 0 ∧ ¬ (l.getD i d3).old = (l.getD i d3).new ∧ ¬ (0 < i ∧ (l.getD (i - 1) d3).at_ ≥ (l.getD i d3).at_)
instance (l : List Chg3) (i : Nat) : Decidable (rightAt l i) := by unfold rightAt; infer_instance
def rightTo (l : List Chg3) (k : Nat) : Prop := ∀ i, i < k → rightAt l i
def right (l : List Chg3) : Bool := decide (∀ i, i < l.length → rightAt l i)
theorem rightTo_zero (l : List Chg3) : rightTo l 0 := fun i h => by omega
theorem rightTo_succ {l : List Chg3} {k : Nat} (h : rightTo l k) (hk : rightAt l k) : rightTo l (k + 1) := fun i hi => by
  rcases Nat.lt_or_ge i k with h' | h'
  · exact h i h'
  · rw [show i = k by omega]; exact hk
theorem right_t {l : List Chg3} {k : Nat} (h : rightTo l k) (hk : k = l.length) : Value.bool true = .bool (right l) := by
  subst hk; exact congrArg Value.bool (decide_eq_true (p := ∀ i, i < l.length → rightAt l i) h).symm
theorem right_f {l : List Chg3} {k : Nat} (hk : k < l.length) (h : ¬ rightAt l k) : Value.bool false = .bool (right l) :=
  congrArg Value.bool (decide_eq_false (fun e => h (e k hk))).symm
theorem right_spec {l : List Chg3} (h : right l = true) : rightTo l l.length := of_decide_eq_true (p := ∀ i, i < l.length → rightAt l i) h

set_option maxHeartbeats 1000000 in
set_option maxRecDepth 100000 in
theorem right_ok (a : Option Addr) (cap : Nat) (l : List Chg3) (w0 : World) (hm : l.length ≤ 9223372036854775807) (hl : RCh w0 a l) :
    K.KC Try.prog 28 #[.slice a l.length cap] w0 (fun v w' => v = .bool (right l) ∧ K.Chg K.No w0 w') := by
  refine K.KC.mk (n := 38) Try.func28 rfl rfl [.slice a l.length cap] rfl rfl ?_
  refine K.KW.seq ?_
  -- region 0 diff.go:31
  refine K.KW.region ?_
  refine K.RW.q rfl rfl (K.QR.k (v := .bool false) (by kernel_rfl)) ?_
  refine K.RW.nil ?_
  refine K.thn_normal ?_
  refine K.KW.seq ?_
  refine K.KW.seq ?_
  -- region 1 diff.go:32
  refine K.KW.region ?_
  refine K.RW.q rfl rfl (K.QR.k (v := .slice a l.length cap) (by kernel_rfl)) ?_
  refine K.RW.q rfl rfl (K.QR.len (P := Try.prog) rfl rfl Try.underlying42) ?_
  refine K.RW.q rfl rfl (K.QR.k (v := .int .i64 0) (by kernel_rfl)) ?_
  refine K.RW.nil ?_
  refine K.thn_normal ?_
  refine K.KW.block ?_
  refine K.KW.loop (fun m_ F_ w_1 => ∃ (k : Nat), m_ = l.length - k ∧ K.Sl F_ [(0, .slice a l.length cap), (5, .slice a l.length cap), (6, .int .i64 ((l.length : Nat) : Int)), (7, .int .i64 ((k : Nat) : Int))] ∧ k ≤ l.length ∧ rightTo l k ∧ K.Chg K.No w0 w_1) ((fun (k : Nat) => l.length - k) 0) ?_ ?_
  · -- the loop begins
    exact ⟨0, rfl, ⟨by rfl, by rfl, by rfl, by rfl, trivial⟩, (by omega), (rightTo_zero _), (K.Chg.refl _)⟩
  · -- a round
    intro m_2 F_3 w_1 hI
    obtain ⟨k, rfl, sl_4, p_6, p_7, c_5⟩ := hI
    rw [← K.Sl.puts sl_4]; clear sl_4
    have z_8 := c_5.size
    refine K.KW.seq ?_
    -- region 2 diff.go:32
    refine K.KW.region ?_
    by_cases h_9 : (((k : Nat) : Int) : Int) < (((l.length : Nat) : Int) : Int)
    ·  -- yes
      refine K.RW.q rfl rfl (K.QR.nice (v := .bool (decide ((((k : Nat) : Int) : Int) < (((l.length : Nat) : Int) : Int)))) (by kernel_rfl) (congrArg Value.bool (decide_eq_true h_9))) ?_
      refine K.RW.nil ?_
      refine K.thn_normal ?_
      refine K.KW.seq ?_
      refine K.KW.ifT rfl ?_
      refine K.KW.skip ?_
      refine K.thn_normal ?_
      refine K.KW.seq ?_
      refine K.KW.block ?_
      refine K.KW.seq ?_
      -- region 3 diff.go:32
      obtain ⟨b_10, of_11, rfl, _⟩ := hl.at_ (by omega)
      refine K.KW.region ?_
      refine K.RW.q rfl rfl (K.QR.k (v := .int .i64 ((k : Nat) : Int)) (by kernel_rfl)) ?_
      refine K.RW.q rfl rfl (K.QR.ix (of_11 + k * 3) 3 rfl rfl rfl Try.underlying42 (by kernel_rfl) (by omega) (by simp)) ?_
      refine K.RW.q rfl rfl (K.QR.ldN [.int .i64 ((l.getD k d3).at_), .int .u64 ((l.getD k d3).old), .int .u64 ((l.getD k d3).new)] rfl rfl (by kernel_rfl) (by kernel_rfl) (K.cells (K.cl (c_5.cell (hl.ld k (by omega) 0 _ rfl) id) (K.cl (c_5.cell (hl.ld k (by omega) 1 _ rfl) id) (K.cl (c_5.cell (hl.ld k (by omega) 2 _ rfl) id) K.cl0))))) ?_
      refine K.RW.l rfl (K.OW.new (t := 46) rfl (fun r => .pointer (some ⟨r, 0, none⟩)) [.int .i64 0, .int .u64 0, .int .u64 0] (by kernel_rfl) ?_) 
      intro w_12 r_13 hr_14 e_15 hs_16 b_17
      have c_18 := c_5.no e_15
      have z_19 := c_18.size
      refine K.RW.q rfl rfl (K.QR.k (v := .int .i64 ((k : Nat) : Int)) (by kernel_rfl)) ?_
      refine K.RW.l rfl (K.OW.st [.int .i64 ((l.getD k d3).at_), .int .u64 ((l.getD k d3).old), .int .u64 ((l.getD k d3).new)] [.int .i64 ((l.getD k d3).at_), .int .u64 ((l.getD k d3).old), .int .u64 ((l.getD k d3).new)] rfl rfl rfl (by kernel_rfl) b_17 rfl (K.one_cells (by rfl)) rfl rfl ?_) 
      intro w_20 e_21 hs_22 b_23
      have c_24 := c_18.own e_21 (by omega)
      have z_25 := c_24.size
      refine K.RW.nil ?_
      refine K.thn_normal ?_
      refine K.KW.seq ?_
      -- region 4 diff.go:33
      refine K.KW.drawn (fun w => K.Chg K.No w0 w ∧ K.Blk w r_13 46 [.int .i64 ((l.getD k d3).at_), .int .u64 ((l.getD k d3).old), .int .u64 ((l.getD k d3).new)]) (by kernel_rfl) ?_
      intro w_26 e_27 hs_28
      have c_30 := c_24.no e_27
      have z_31 := c_30.size
      have f_32 := b_23.no e_27
      have hS_29 : (fun w => K.Chg K.No w0 w ∧ K.Blk w r_13 46 [.int .i64 ((l.getD k d3).at_), .int .u64 ((l.getD k d3).old), .int .u64 ((l.getD k d3).new)]) w_26 := ⟨c_30, f_32⟩
      refine K.DW.q 0 (by kernel_rfl) rfl rfl (by kernel_rfl) rfl (fun w hS => K.QR.k (v := .pointer (some ⟨r_13, 0, none⟩)) (by kernel_rfl)) hS_29 ?_
      refine K.DW.q 1 (by kernel_rfl) rfl rfl (by kernel_rfl) rfl (fun w hS => K.QR.ld1 (v := .int .i64 ((l.getD k d3).at_)) rfl rfl (by kernel_rfl) (hS.2.cell rfl)) hS_29 ?_
      by_cases h_33 : ((l.getD k d3).at_ : Int) < (0 : Int)
      ·  -- yes
        refine K.DW.q 2 (by kernel_rfl) rfl rfl (by kernel_rfl) rfl (fun w hS => K.QR.nice (v := .bool (decide (((l.getD k d3).at_ : Int) < (0 : Int)))) (by kernel_rfl) (congrArg Value.bool (decide_eq_true h_33))) hS_29 ?_
        refine K.DW.q 3 (by kernel_rfl) rfl rfl (by kernel_rfl) rfl (fun w hS => K.QR.k (v := .bool true) (by kernel_rfl)) hS_29 ?_
        refine K.DW.skip 4 (by kernel_rfl) rfl rfl (by kernel_rfl) (by kernel_rfl) hS_29 ?_
        refine K.DW.skip 5 (by kernel_rfl) rfl rfl (by kernel_rfl) (by kernel_rfl) hS_29 ?_
        refine K.DW.skip 6 (by kernel_rfl) rfl rfl (by kernel_rfl) (by kernel_rfl) hS_29 ?_
        refine K.DW.skip 7 (by kernel_rfl) rfl rfl (by kernel_rfl) (by kernel_rfl) hS_29 ?_
        refine K.DW.skip 8 (by kernel_rfl) rfl rfl (by kernel_rfl) (by kernel_rfl) hS_29 ?_
        refine K.DW.q 9 (by kernel_rfl) rfl rfl (by kernel_rfl) rfl (fun w hS => K.QR.k (v := .bool true) (by kernel_rfl)) hS_29 ?_
        refine K.DW.q 10 (by kernel_rfl) rfl rfl (by kernel_rfl) rfl (fun w hS => K.QR.k (v := .bool true) (by kernel_rfl)) hS_29 ?_
        refine K.DW.skip 11 (by kernel_rfl) rfl rfl (by kernel_rfl) (by kernel_rfl) hS_29 ?_
        refine K.DW.skip 12 (by kernel_rfl) rfl rfl (by kernel_rfl) (by kernel_rfl) hS_29 ?_
        refine K.DW.skip 13 (by kernel_rfl) rfl rfl (by kernel_rfl) (by kernel_rfl) hS_29 ?_
        refine K.DW.skip 14 (by kernel_rfl) rfl rfl (by kernel_rfl) (by kernel_rfl) hS_29 ?_
        refine K.DW.skip 15 (by kernel_rfl) rfl rfl (by kernel_rfl) (by kernel_rfl) hS_29 ?_
        refine K.DW.skip 16 (by kernel_rfl) rfl rfl (by kernel_rfl) (by kernel_rfl) hS_29 ?_
        refine K.DW.skip 17 (by kernel_rfl) rfl rfl (by kernel_rfl) (by kernel_rfl) hS_29 ?_
        refine K.DW.skip 18 (by kernel_rfl) rfl rfl (by kernel_rfl) (by kernel_rfl) hS_29 ?_
        refine K.DW.skip 19 (by kernel_rfl) rfl rfl (by kernel_rfl) (by kernel_rfl) hS_29 ?_
        refine K.DW.skip 20 (by kernel_rfl) rfl rfl (by kernel_rfl) (by kernel_rfl) hS_29 ?_
        refine K.DW.skip 21 (by kernel_rfl) rfl rfl (by kernel_rfl) (by kernel_rfl) hS_29 ?_
        refine K.DW.skip 22 (by kernel_rfl) rfl rfl (by kernel_rfl) (by kernel_rfl) hS_29 ?_
        refine K.DW.skip 23 (by kernel_rfl) rfl rfl (by kernel_rfl) (by kernel_rfl) hS_29 ?_
        refine K.DW.q 24 (by kernel_rfl) rfl rfl (by kernel_rfl) rfl (fun w hS => K.QR.k (v := .bool true) (by kernel_rfl)) hS_29 ?_
        refine K.DW.done (by kernel_rfl) ?_
        refine K.thn_normal ?_
        refine K.KW.ifT rfl ?_
        refine K.KW.seq ?_
        -- region 5 diff.go:34
        refine K.KW.region ?_
        refine K.RW.q rfl rfl (K.QR.k (v := .bool false) (by kernel_rfl)) ?_
        refine K.RW.nil ?_
        refine K.thn_normal ?_
        refine K.KW.ret ?_
        refine K.blk_ret ?_
        refine K.thn_ret ?_
        refine K.thn_ret ?_
        refine K.blk_ret ?_
        refine K.thn_ret ?_
        refine ⟨.inr rfl, (.bool false), K.res1 rfl rfl, ?_⟩
        exact ⟨by first | exact right_t (by assumption) (by omega) | exact right_f (k := k) (by omega) (by unfold rightAt; omega), c_30⟩
      ·  -- no
        refine K.DW.q 2 (by kernel_rfl) rfl rfl (by kernel_rfl) rfl (fun w hS => K.QR.nice (v := .bool (decide (((l.getD k d3).at_ : Int) < (0 : Int)))) (by kernel_rfl) (congrArg Value.bool (decide_eq_false h_33))) hS_29 ?_
        refine K.DW.q 3 (by kernel_rfl) rfl rfl (by kernel_rfl) rfl (fun w hS => K.QR.k (v := .bool false) (by kernel_rfl)) hS_29 ?_
        refine K.DW.q 4 (by kernel_rfl) rfl rfl (by kernel_rfl) (by kernel_rfl) (fun w hS => K.QR.k (v := .pointer (some ⟨r_13, 1, none⟩)) (by kernel_rfl)) hS_29 ?_
        refine K.DW.q 5 (by kernel_rfl) rfl rfl (by kernel_rfl) (by kernel_rfl) (fun w hS => K.QR.ld1 (v := .int .u64 ((l.getD k d3).old)) rfl rfl (by kernel_rfl) (hS.2.cell rfl)) hS_29 ?_
        refine K.DW.q 6 (by kernel_rfl) rfl rfl (by kernel_rfl) (by kernel_rfl) (fun w hS => K.QR.k (v := .pointer (some ⟨r_13, 2, none⟩)) (by kernel_rfl)) hS_29 ?_
        refine K.DW.q 7 (by kernel_rfl) rfl rfl (by kernel_rfl) (by kernel_rfl) (fun w hS => K.QR.ld1 (v := .int .u64 ((l.getD k d3).new)) rfl rfl (by kernel_rfl) (hS.2.cell rfl)) hS_29 ?_
        by_cases h_34 : ((l.getD k d3).old : Int) = ((l.getD k d3).new : Int)
        ·  -- yes
          refine K.DW.q 8 (by kernel_rfl) rfl rfl (by kernel_rfl) (by kernel_rfl) (fun w hS => K.QR.nice (v := .bool (((l.getD k d3).old : Int) == ((l.getD k d3).new : Int))) (by kernel_rfl) (congrArg Value.bool (beq_iff_eq.2 h_34))) hS_29 ?_
          refine K.DW.q 9 (by kernel_rfl) rfl rfl (by kernel_rfl) rfl (fun w hS => K.QR.k (v := .bool true) (by kernel_rfl)) hS_29 ?_
          refine K.DW.q 10 (by kernel_rfl) rfl rfl (by kernel_rfl) rfl (fun w hS => K.QR.k (v := .bool true) (by kernel_rfl)) hS_29 ?_
          refine K.DW.skip 11 (by kernel_rfl) rfl rfl (by kernel_rfl) (by kernel_rfl) hS_29 ?_
          refine K.DW.skip 12 (by kernel_rfl) rfl rfl (by kernel_rfl) (by kernel_rfl) hS_29 ?_
          refine K.DW.skip 13 (by kernel_rfl) rfl rfl (by kernel_rfl) (by kernel_rfl) hS_29 ?_
          refine K.DW.skip 14 (by kernel_rfl) rfl rfl (by kernel_rfl) (by kernel_rfl) hS_29 ?_
          refine K.DW.skip 15 (by kernel_rfl) rfl rfl (by kernel_rfl) (by kernel_rfl) hS_29 ?_
          refine K.DW.skip 16 (by kernel_rfl) rfl rfl (by kernel_rfl) (by kernel_rfl) hS_29 ?_
          refine K.DW.skip 17 (by kernel_rfl) rfl rfl (by kernel_rfl) (by kernel_rfl) hS_29 ?_
          refine K.DW.skip 18 (by kernel_rfl) rfl rfl (by kernel_rfl) (by kernel_rfl) hS_29 ?_
          refine K.DW.skip 19 (by kernel_rfl) rfl rfl (by kernel_rfl) (by kernel_rfl) hS_29 ?_
          refine K.DW.skip 20 (by kernel_rfl) rfl rfl (by kernel_rfl) (by kernel_rfl) hS_29 ?_
          refine K.DW.skip 21 (by kernel_rfl) rfl rfl (by kernel_rfl) (by kernel_rfl) hS_29 ?_
          refine K.DW.skip 22 (by kernel_rfl) rfl rfl (by kernel_rfl) (by kernel_rfl) hS_29 ?_
          refine K.DW.skip 23 (by kernel_rfl) rfl rfl (by kernel_rfl) (by kernel_rfl) hS_29 ?_
          refine K.DW.q 24 (by kernel_rfl) rfl rfl (by kernel_rfl) rfl (fun w hS => K.QR.k (v := .bool true) (by kernel_rfl)) hS_29 ?_
          refine K.DW.done (by kernel_rfl) ?_
          refine K.thn_normal ?_
          refine K.KW.ifT rfl ?_
          refine K.KW.seq ?_
          -- region 5 diff.go:34
          refine K.KW.region ?_
          refine K.RW.q rfl rfl (K.QR.k (v := .bool false) (by kernel_rfl)) ?_
          refine K.RW.nil ?_
          refine K.thn_normal ?_
          refine K.KW.ret ?_
          refine K.blk_ret ?_
          refine K.thn_ret ?_
          refine K.thn_ret ?_
          refine K.blk_ret ?_
          refine K.thn_ret ?_
          refine ⟨.inr rfl, (.bool false), K.res1 rfl rfl, ?_⟩
          exact ⟨by first | exact right_t (by assumption) (by omega) | exact right_f (k := k) (by omega) (by unfold rightAt; omega), c_30⟩
        ·  -- no
          refine K.DW.q 8 (by kernel_rfl) rfl rfl (by kernel_rfl) (by kernel_rfl) (fun w hS => K.QR.nice (v := .bool (((l.getD k d3).old : Int) == ((l.getD k d3).new : Int))) (by kernel_rfl) (congrArg Value.bool (beq_eq_false_iff_ne.2 h_34))) hS_29 ?_
          refine K.DW.q 9 (by kernel_rfl) rfl rfl (by kernel_rfl) rfl (fun w hS => K.QR.k (v := .bool false) (by kernel_rfl)) hS_29 ?_
          refine K.DW.q 10 (by kernel_rfl) rfl rfl (by kernel_rfl) rfl (fun w hS => K.QR.k (v := .bool false) (by kernel_rfl)) hS_29 ?_
          refine K.DW.q 11 (by kernel_rfl) rfl rfl (by kernel_rfl) (by kernel_rfl) (fun w hS => K.QR.k (v := .int .i64 ((k : Nat) : Int)) (by kernel_rfl)) hS_29 ?_
          by_cases h_35 : (((k : Nat) : Int) : Int) > (0 : Int)
          ·  -- yes
            refine K.DW.q 12 (by kernel_rfl) rfl rfl (by kernel_rfl) (by kernel_rfl) (fun w hS => K.QR.nice (v := .bool (decide ((((k : Nat) : Int) : Int) > (0 : Int)))) (by kernel_rfl) (congrArg Value.bool (decide_eq_true h_35))) hS_29 ?_
            refine K.DW.q 13 (by kernel_rfl) rfl rfl (by kernel_rfl) (by kernel_rfl) (fun w hS => K.QR.k (v := .bool true) (by kernel_rfl)) hS_29 ?_
            refine K.DW.q 14 (by kernel_rfl) rfl rfl (by kernel_rfl) (by kernel_rfl) (fun w hS => K.QR.k (v := .slice (some ⟨b_10, of_11, none⟩) l.length cap) (by kernel_rfl)) hS_29 ?_
            refine K.DW.q 15 (by kernel_rfl) rfl rfl (by kernel_rfl) (by kernel_rfl) (fun w hS => K.QR.k (v := .int .i64 ((k : Nat) : Int)) (by kernel_rfl)) hS_29 ?_
            refine K.DW.q 16 (by kernel_rfl) rfl rfl (by kernel_rfl) (by kernel_rfl) (fun w hS => K.QR.n64 ((((k : Nat) : Int) : Int) - (1 : Int)) ((k - 1 : Nat) : Int) (by kernel_rfl) (by omega)) hS_29 ?_
            refine K.DW.q 17 (by kernel_rfl) rfl rfl (by kernel_rfl) (by kernel_rfl) (fun w hS => K.QR.ix (of_11 + (k - 1) * 3) 3 rfl rfl rfl Try.underlying42 (by kernel_rfl) (by omega) (by simp)) hS_29 ?_
            refine K.DW.q 18 (by kernel_rfl) rfl rfl (by kernel_rfl) (by kernel_rfl) (fun w hS => K.QR.k (v := .pointer (some ⟨b_10, of_11 + (k - 1) * 3, none⟩)) (by kernel_rfl)) hS_29 ?_
            refine K.DW.q 19 (by kernel_rfl) rfl rfl (by kernel_rfl) (by kernel_rfl) (fun w hS => K.QR.ld1 (v := .int .i64 ((l.getD (k - 1) d3).at_)) rfl rfl (by kernel_rfl) (hS.1.cell (hl.ld (k - 1) (by omega) 0 _ rfl) id)) hS_29 ?_
            refine K.DW.q 20 (by kernel_rfl) rfl rfl (by kernel_rfl) (by kernel_rfl) (fun w hS => K.QR.k (v := .pointer (some ⟨r_13, 0, none⟩)) (by kernel_rfl)) hS_29 ?_
            refine K.DW.q 21 (by kernel_rfl) rfl rfl (by kernel_rfl) (by kernel_rfl) (fun w hS => K.QR.ld1 (v := .int .i64 ((l.getD k d3).at_)) rfl rfl (by kernel_rfl) (hS.2.cell rfl)) hS_29 ?_
            by_cases h_36 : ((l.getD (k - 1) d3).at_ : Int) ≥ ((l.getD k d3).at_ : Int)
            ·  -- yes
              refine K.DW.q 22 (by kernel_rfl) rfl rfl (by kernel_rfl) (by kernel_rfl) (fun w hS => K.QR.nice (v := .bool (decide (((l.getD (k - 1) d3).at_ : Int) ≥ ((l.getD k d3).at_ : Int)))) (by kernel_rfl) (congrArg Value.bool (decide_eq_true h_36))) hS_29 ?_
              refine K.DW.q 23 (by kernel_rfl) rfl rfl (by kernel_rfl) (by kernel_rfl) (fun w hS => K.QR.k (v := .bool true) (by kernel_rfl)) hS_29 ?_
              refine K.DW.q 24 (by kernel_rfl) rfl rfl (by kernel_rfl) rfl (fun w hS => K.QR.k (v := .bool true) (by kernel_rfl)) hS_29 ?_
              refine K.DW.done (by kernel_rfl) ?_
              refine K.thn_normal ?_
              refine K.KW.ifT rfl ?_
              refine K.KW.seq ?_
              -- region 5 diff.go:34
              refine K.KW.region ?_
              refine K.RW.q rfl rfl (K.QR.k (v := .bool false) (by kernel_rfl)) ?_
              refine K.RW.nil ?_
              refine K.thn_normal ?_
              refine K.KW.ret ?_
              refine K.blk_ret ?_
              refine K.thn_ret ?_
              refine K.thn_ret ?_
              refine K.blk_ret ?_
              refine K.thn_ret ?_
              refine ⟨.inr rfl, (.bool false), K.res1 rfl rfl, ?_⟩
              exact ⟨by first | exact right_t (by assumption) (by omega) | exact right_f (k := k) (by omega) (by unfold rightAt; omega), c_30⟩
            ·  -- no
              refine K.DW.q 22 (by kernel_rfl) rfl rfl (by kernel_rfl) (by kernel_rfl) (fun w hS => K.QR.nice (v := .bool (decide (((l.getD (k - 1) d3).at_ : Int) ≥ ((l.getD k d3).at_ : Int)))) (by kernel_rfl) (congrArg Value.bool (decide_eq_false h_36))) hS_29 ?_
              refine K.DW.q 23 (by kernel_rfl) rfl rfl (by kernel_rfl) (by kernel_rfl) (fun w hS => K.QR.k (v := .bool false) (by kernel_rfl)) hS_29 ?_
              refine K.DW.q 24 (by kernel_rfl) rfl rfl (by kernel_rfl) rfl (fun w hS => K.QR.k (v := .bool false) (by kernel_rfl)) hS_29 ?_
              refine K.DW.done (by kernel_rfl) ?_
              refine K.thn_normal ?_
              refine K.KW.ifF rfl ?_
              refine K.KW.skip ?_
              refine K.blk_normal ?_
              refine K.thn_normal ?_
              -- region 6 diff.go:32
              refine K.KW.region ?_
              refine K.RW.q rfl rfl (K.QR.n64 ((((k : Nat) : Int) : Int) + (1 : Int)) ((k + 1 : Nat) : Int) (by kernel_rfl) (by omega)) ?_
              refine K.RW.q rfl rfl (K.QR.k (v := .int .i64 ((k + 1 : Nat) : Int)) (by kernel_rfl)) ?_
              refine K.RW.nil ?_
              refine K.thn_normal ?_
              refine ⟨_, ?_, k + 1, rfl, ⟨by rfl, by rfl, by rfl, by rfl, trivial⟩, (by omega), (rightTo_succ (by assumption) (by unfold rightAt; omega)), c_30⟩
              omega
          ·  -- no
            refine K.DW.q 12 (by kernel_rfl) rfl rfl (by kernel_rfl) (by kernel_rfl) (fun w hS => K.QR.nice (v := .bool (decide ((((k : Nat) : Int) : Int) > (0 : Int)))) (by kernel_rfl) (congrArg Value.bool (decide_eq_false h_35))) hS_29 ?_
            refine K.DW.q 13 (by kernel_rfl) rfl rfl (by kernel_rfl) (by kernel_rfl) (fun w hS => K.QR.k (v := .bool false) (by kernel_rfl)) hS_29 ?_
            refine K.DW.skip 14 (by kernel_rfl) rfl rfl (by kernel_rfl) (by kernel_rfl) hS_29 ?_
            refine K.DW.skip 15 (by kernel_rfl) rfl rfl (by kernel_rfl) (by kernel_rfl) hS_29 ?_
            refine K.DW.skip 16 (by kernel_rfl) rfl rfl (by kernel_rfl) (by kernel_rfl) hS_29 ?_
            refine K.DW.skip 17 (by kernel_rfl) rfl rfl (by kernel_rfl) (by kernel_rfl) hS_29 ?_
            refine K.DW.skip 18 (by kernel_rfl) rfl rfl (by kernel_rfl) (by kernel_rfl) hS_29 ?_
            refine K.DW.skip 19 (by kernel_rfl) rfl rfl (by kernel_rfl) (by kernel_rfl) hS_29 ?_
            refine K.DW.skip 20 (by kernel_rfl) rfl rfl (by kernel_rfl) (by kernel_rfl) hS_29 ?_
            refine K.DW.skip 21 (by kernel_rfl) rfl rfl (by kernel_rfl) (by kernel_rfl) hS_29 ?_
            refine K.DW.skip 22 (by kernel_rfl) rfl rfl (by kernel_rfl) (by kernel_rfl) hS_29 ?_
            refine K.DW.q 23 (by kernel_rfl) rfl rfl (by kernel_rfl) (by kernel_rfl) (fun w hS => K.QR.k (v := .bool false) (by kernel_rfl)) hS_29 ?_
            refine K.DW.q 24 (by kernel_rfl) rfl rfl (by kernel_rfl) rfl (fun w hS => K.QR.k (v := .bool false) (by kernel_rfl)) hS_29 ?_
            refine K.DW.done (by kernel_rfl) ?_
            refine K.thn_normal ?_
            refine K.KW.ifF rfl ?_
            refine K.KW.skip ?_
            refine K.blk_normal ?_
            refine K.thn_normal ?_
            -- region 6 diff.go:32
            refine K.KW.region ?_
            refine K.RW.q rfl rfl (K.QR.n64 ((((k : Nat) : Int) : Int) + (1 : Int)) ((k + 1 : Nat) : Int) (by kernel_rfl) (by omega)) ?_
            refine K.RW.q rfl rfl (K.QR.k (v := .int .i64 ((k + 1 : Nat) : Int)) (by kernel_rfl)) ?_
            refine K.RW.nil ?_
            refine K.thn_normal ?_
            refine ⟨_, ?_, k + 1, rfl, ⟨by rfl, by rfl, by rfl, by rfl, trivial⟩, (by omega), (rightTo_succ (by assumption) (by unfold rightAt; omega)), c_30⟩
            omega
    ·  -- no
      refine K.RW.q rfl rfl (K.QR.nice (v := .bool (decide ((((k : Nat) : Int) : Int) < (((l.length : Nat) : Int) : Int)))) (by kernel_rfl) (congrArg Value.bool (decide_eq_false h_9))) ?_
      refine K.RW.nil ?_
      refine K.thn_normal ?_
      refine K.KW.seq ?_
      refine K.KW.ifF rfl ?_
      refine K.KW.exit ?_
      refine K.thn_exit ?_
      refine K.thn_exit ?_
      refine K.blk_hit ?_
      refine K.thn_normal ?_
      refine K.KW.seq ?_
      -- region 7 diff.go:37
      refine K.KW.region ?_
      refine K.RW.q rfl rfl (K.QR.k (v := .bool true) (by kernel_rfl)) ?_
      refine K.RW.nil ?_
      refine K.thn_normal ?_
      refine K.KW.ret ?_
      refine ⟨.inr rfl, (.bool true), K.res1 rfl rfl, ?_⟩
      exact ⟨by first | exact right_t (by assumption) (by omega) | exact right_f (k := k) (by omega) (by unfold rightAt; omega), c_5⟩

def back1 (c : Chg3) : Chg3 := ⟨c.at_, c.new, c.old⟩
theorem take_snoc_d {α : Type} (d : α) {l : List α} {k : Nat} (h : k < l.length) : l.take (k + 1) = l.take k ++ [l.getD k d] := by
  rw [List.take_succ_eq_append_getElem h]; simp [h]
theorem map_take_succ {α β : Type} (f : α → β) (d : α) {l : List α} {k : Nat} (h : k < l.length) : (l.take (k + 1)).map f = (l.take k).map f ++ [f (l.getD k d)] := by
  rw [List.take_succ_eq_append_getElem h, List.map_append]; simp [h]

set_option maxHeartbeats 1000000 in
set_option maxRecDepth 100000 in
theorem back_ok (a : Option Addr) (cap : Nat) (l : List Chg3) (w0 : World) (hm : l.length * 24 ≤ 140737488351232) (hl : RCh w0 a l) :
    K.KC Try.prog 27 #[.slice a l.length cap] w0 (fun v w' => ∃ r m c, v = .slice r m c ∧ K.Chg K.No w0 w' ∧ K.Own w' w0.heap.size 46 3 r m c ((l.map back1).flatMap chgC) ∧ (l.map back1).length = m) := by
  refine K.KC.mk (n := 24) Try.func27 rfl rfl [.slice a l.length cap] rfl rfl ?_
  refine K.KW.seq ?_
  -- region 0 diff.go:59
  refine K.KW.region ?_
  refine K.RW.q rfl rfl (K.QR.k (v := .slice none 0 0) (by kernel_rfl)) ?_
  refine K.RW.nil ?_
  refine K.thn_normal ?_
  refine K.KW.seq ?_
  -- region 1 diff.go:60
  refine K.KW.region ?_
  refine K.RW.q rfl rfl (K.QR.k (v := .slice none 0 0) (by kernel_rfl)) ?_
  refine K.RW.nil ?_
  refine K.thn_normal ?_
  refine K.KW.seq ?_
  refine K.KW.seq ?_
  -- region 2 diff.go:61
  refine K.KW.region ?_
  refine K.RW.q rfl rfl (K.QR.k (v := .slice a l.length cap) (by kernel_rfl)) ?_
  refine K.RW.q rfl rfl (K.QR.len (P := Try.prog) rfl rfl Try.underlying42) ?_
  refine K.RW.q rfl rfl (K.QR.k (v := .int .i64 0) (by kernel_rfl)) ?_
  refine K.RW.nil ?_
  refine K.thn_normal ?_
  refine K.KW.block ?_
  refine K.KW.loop (fun m_ F_ w_1 => ∃ (k : Nat) (r : Option Addr) (m1 : Nat) (c1 : Nat), m_ = l.length - k ∧ K.Sl F_ [(0, .slice a l.length cap), (2, .slice none 0 0), (3, .slice r m1 c1), (6, .slice a l.length cap), (7, .int .i64 ((l.length : Nat) : Int)), (8, .int .i64 ((k : Nat) : Int))] ∧ k ≤ l.length ∧ ((l.take k).map back1).length = m1 ∧ m1 = k ∧ K.Chg K.No w0 w_1 ∧ K.Own w_1 w0.heap.size 46 3 r m1 c1 (((l.take k).map back1).flatMap chgC)) ((fun (k : Nat) (r : Option Addr) (m1 : Nat) (c1 : Nat) => l.length - k) 0 none 0 0) ?_ ?_
  · -- the loop begins
    exact ⟨0, none, 0, 0, rfl, ⟨by rfl, by rfl, by rfl, by rfl, by rfl, by rfl, trivial⟩, (by omega), (by simp), (by omega), (K.Chg.refl _), (by simpa using K.Own.nil _ _ _ _)⟩
  · -- a round
    intro m_2 F_3 w_1 hI
    obtain ⟨k, r, m1, c1, rfl, sl_4, p_6, p_7, p_8, c_5, f_9⟩ := hI
    rw [← K.Sl.puts sl_4]; clear sl_4
    have z_10 := c_5.size
    refine K.KW.seq ?_
    -- region 3 diff.go:61
    refine K.KW.region ?_
    by_cases h_11 : (((k : Nat) : Int) : Int) < (((l.length : Nat) : Int) : Int)
    ·  -- yes
      refine K.RW.q rfl rfl (K.QR.nice (v := .bool (decide ((((k : Nat) : Int) : Int) < (((l.length : Nat) : Int) : Int)))) (by kernel_rfl) (congrArg Value.bool (decide_eq_true h_11))) ?_
      refine K.RW.nil ?_
      refine K.thn_normal ?_
      refine K.KW.seq ?_
      refine K.KW.ifT rfl ?_
      refine K.KW.skip ?_
      refine K.thn_normal ?_
      refine K.KW.seq ?_
      refine K.KW.block ?_
      refine K.KW.seq ?_
      -- region 4 diff.go:61
      obtain ⟨b_12, of_13, rfl, _⟩ := hl.at_ (by omega)
      refine K.KW.region ?_
      refine K.RW.q rfl rfl (K.QR.ix (of_13 + k * 3) 3 rfl rfl rfl Try.underlying42 (by kernel_rfl) (by omega) (by simp)) ?_
      refine K.RW.q rfl rfl (K.QR.ldN [.int .i64 ((l.getD k d3).at_), .int .u64 ((l.getD k d3).old), .int .u64 ((l.getD k d3).new)] rfl rfl (by kernel_rfl) (by kernel_rfl) (K.cells (K.cl (c_5.cell (hl.ld k (by omega) 0 _ rfl) id) (K.cl (c_5.cell (hl.ld k (by omega) 1 _ rfl) id) (K.cl (c_5.cell (hl.ld k (by omega) 2 _ rfl) id) K.cl0))))) ?_
      refine K.RW.l rfl (K.OW.new (t := 46) rfl (fun r => .pointer (some ⟨r, 0, none⟩)) [.int .i64 0, .int .u64 0, .int .u64 0] (by kernel_rfl) ?_) 
      intro w_14 r_15 hr_16 e_17 hs_18 b_19
      have c_20 := c_5.no e_17
      have z_21 := c_20.size
      have f_22 := f_9.no e_17
      have ap_23 : ∀ k, K.Ow r k → ¬ k = r_15 := fun k hk he => absurd (f_9.lt k hk) (by omega)
      refine K.RW.l rfl (K.OW.st [.int .i64 ((l.getD k d3).at_), .int .u64 ((l.getD k d3).old), .int .u64 ((l.getD k d3).new)] [.int .i64 ((l.getD k d3).at_), .int .u64 ((l.getD k d3).old), .int .u64 ((l.getD k d3).new)] rfl rfl rfl (by kernel_rfl) b_19 rfl (K.one_cells (by rfl)) rfl rfl ?_) 
      intro w_24 e_25 hs_26 b_27
      have c_28 := c_20.own e_25 (by omega)
      have z_29 := c_28.size
      have f_30 := f_22.chg e_25 (fun k hk hy => ap_23 k hk hy)
      refine K.RW.nil ?_
      refine K.thn_normal ?_
      -- region 5 diff.go:62
      refine K.KW.region ?_
      refine K.RW.q rfl rfl (K.QR.k (v := .slice r m1 c1) (by kernel_rfl)) ?_
      refine K.RW.q rfl rfl (K.QR.k (v := .pointer (some ⟨r_15, 0, none⟩)) (by kernel_rfl)) ?_
      refine K.RW.q rfl rfl (K.QR.ld1 (v := .int .i64 ((l.getD k d3).at_)) rfl rfl (by kernel_rfl) (b_27.cell rfl)) ?_
      refine K.RW.q rfl rfl (K.QR.k (v := .pointer (some ⟨r_15, 2, none⟩)) (by kernel_rfl)) ?_
      refine K.RW.q rfl rfl (K.QR.ld1 (v := .int .u64 ((l.getD k d3).new)) rfl rfl (by kernel_rfl) (b_27.cell rfl)) ?_
      refine K.RW.q rfl rfl (K.QR.k (v := .pointer (some ⟨r_15, 1, none⟩)) (by kernel_rfl)) ?_
      refine K.RW.q rfl rfl (K.QR.ld1 (v := .int .u64 ((l.getD k d3).old)) rfl rfl (by kernel_rfl) (b_27.cell rfl)) ?_
      refine K.RW.q rfl rfl (K.QR.bd [(0, .int .i64 ((l.getD k d3).at_)), (1, .int .u64 ((l.getD k d3).new)), (2, .int .u64 ((l.getD k d3).old))] [.int .i64 ((l.getD k d3).at_), .int .u64 ((l.getD k d3).new), .int .u64 ((l.getD k d3).old)] rfl rfl (by kernel_rfl)) ?_
      refine K.RW.l rfl (K.OW.bs rfl [(0, .agg #[.int .i64 ((l.getD k d3).at_), .int .u64 ((l.getD k d3).new), .int .u64 ((l.getD k d3).old)])] [.int .i64 ((l.getD k d3).at_), .int .u64 ((l.getD k d3).new), .int .u64 ((l.getD k d3).old)] rfl rfl (fun w => K.bs_run (P := Try.prog) w 42 46 1 _ _ Try.underlying42 (by kernel_rfl)) ?_) 
      intro w_31 r_32 hr_33 e_34 hs_35 b_36
      have c_37 := c_28.no e_34
      have z_38 := c_37.size
      have f_39 := f_30.no e_34
      have f_40 := b_27.no e_34
      have ap_41 : ∀ k, K.Ow r k → ¬ k = r_32 := fun k hk he => absurd (f_30.lt k hk) (by omega)
      refine K.RW.l rfl (K.OW.app (P := Try.prog) (xs := (((l.take k).map back1)).flatMap chgC) (z := .agg #[.int .i64 0, .int .u64 0, .int .u64 0]) (size := 3) (bytes := 24) rfl [.int .i64 ((l.getD k d3).at_), .int .u64 ((l.getD k d3).new), .int .u64 ((l.getD k d3).old)] rfl rfl f_39 rfl Try.underlying42 (by kernel_rfl) rfl (by decide) (by rfl) (fun j u hj => (by rw [Nat.zero_add]; exact b_36.cell hj)) (K.one_cells (by rfl)) (by unfold maxLen; omega) (by omega) (by omega) ?_) 
      intro a_42 cap_43 w_44 e_45 o_46
      have c_47 := c_37.trans e_45 (fun i hi hy => absurd (f_39.base_le i hy) (by omega))
      have z_48 := c_47.size
      have f_49 := f_40.chg e_45 (fun hk => ap_23 _ hk rfl)
      have o_46t := K.Own.snoc (c := chgC) (L := ((l.take k).map back1)) (⟨(l.getD k d3).at_, (l.getD k d3).new, (l.getD k d3).old⟩ : Chg3) rfl o_46
      have ln_50 : ((((l.take k).map back1) ++ [(⟨(l.getD k d3).at_, (l.getD k d3).new, (l.getD k d3).old⟩ : Chg3)])).length = m1 + 1 := by rw [List.length_append, p_7]; rfl
      refine K.RW.q rfl rfl (K.QR.k (v := .slice a_42 (m1 + 1) cap_43) (by kernel_rfl)) ?_
      refine K.RW.nil ?_
      refine K.blk_normal ?_
      refine K.thn_normal ?_
      -- region 6 diff.go:61
      refine K.KW.region ?_
      refine K.RW.q rfl rfl (K.QR.n64 ((((k : Nat) : Int) : Int) + (1 : Int)) ((k + 1 : Nat) : Int) (by kernel_rfl) (by omega)) ?_
      refine K.RW.q rfl rfl (K.QR.k (v := .int .i64 ((k + 1 : Nat) : Int)) (by kernel_rfl)) ?_
      refine K.RW.nil ?_
      refine K.thn_normal ?_
      refine ⟨_, ?_, k + 1, a_42, m1 + 1, cap_43, rfl, ⟨by rfl, by rfl, by rfl, by rfl, by rfl, by rfl, trivial⟩, (by omega), ((by rw [map_take_succ back1 d3 (by omega)]; exact ln_50)), (by omega), c_47, (by rw [map_take_succ back1 d3 (by omega)]; exact o_46t)⟩
      omega
    ·  -- no
      refine K.RW.q rfl rfl (K.QR.nice (v := .bool (decide ((((k : Nat) : Int) : Int) < (((l.length : Nat) : Int) : Int)))) (by kernel_rfl) (congrArg Value.bool (decide_eq_false h_11))) ?_
      refine K.RW.nil ?_
      refine K.thn_normal ?_
      refine K.KW.seq ?_
      refine K.KW.ifF rfl ?_
      refine K.KW.exit ?_
      refine K.thn_exit ?_
      refine K.thn_exit ?_
      refine K.blk_hit ?_
      refine K.thn_normal ?_
      refine K.KW.seq ?_
      -- region 7 diff.go:64
      refine K.KW.region ?_
      refine K.RW.q rfl rfl (K.QR.k (v := .slice r m1 c1) (by kernel_rfl)) ?_
      refine K.RW.q rfl rfl (K.QR.k (v := .slice r m1 c1) (by kernel_rfl)) ?_
      refine K.RW.nil ?_
      refine K.thn_normal ?_
      refine K.KW.ret ?_
      refine ⟨.inr rfl, (.slice r m1 c1), K.res1 rfl rfl, ?_⟩
      obtain rfl : k = l.length := by omega
      rw [List.take_length] at *
      exact ⟨_, _, _, rfl, c_5, f_9, p_7⟩

set_option maxHeartbeats 1000000 in
set_option maxRecDepth 100000 in
theorem cloneU64_ok (a : Option Addr) (cap : Nat) (xs : List Int) (w0 : World) (hm : xs.length * 8 ≤ 140737488351232) (hx : RU64 w0 a xs) :
    K.KC Try.prog 55 #[.slice a xs.length cap] w0 (fun v w' => ∃ r c, v = .slice r xs.length c ∧ K.Chg K.No w0 w' ∧ K.Own w' w0.heap.size 22 1 r xs.length c ((xs).flatMap cU64)) := by
  refine K.KC.mk (n := 8) Try.func55 rfl rfl [.slice a xs.length cap] rfl rfl ?_
  refine K.KW.seq ?_
  -- region 0 slices.go:355
  refine K.KW.region ?_
  refine K.RW.q rfl rfl (K.QR.k (v := .slice none 0 0) (by kernel_rfl)) ?_
  refine K.RW.nil ?_
  refine K.thn_normal ?_
  refine K.KW.seq ?_
  refine K.KW.seq ?_
  -- region 1 slices.go:357
  refine K.KW.region ?_
  refine K.RW.q rfl rfl (K.QR.k (v := .slice a xs.length cap) (by kernel_rfl)) ?_
  rcases Option.eq_none_or_eq_some a with rfl | ⟨p, hp⟩
  ·  -- nil
    refine K.RW.q rfl rfl (K.QR.eqNil rfl rfl rfl Try.underlying32) ?_
    refine K.RW.nil ?_
    refine K.thn_normal ?_
    refine K.KW.ifT rfl ?_
    refine K.KW.seq ?_
    -- region 2 slices.go:358
    refine K.KW.region ?_
    refine K.RW.q rfl rfl (K.QR.k (v := .slice none 0 0) (by kernel_rfl)) ?_
    refine K.RW.nil ?_
    refine K.thn_normal ?_
    refine K.KW.ret ?_
    refine K.thn_ret ?_
    refine ⟨.inr rfl, (.slice none 0 0), K.res1 rfl rfl, ?_⟩
    obtain ⟨rfl⟩ : xs = [] := by rcases hx with h | ⟨_, _, h, _⟩ <;> first | exact List.eq_nil_of_length_eq_zero h | cases h
    exact ⟨_, _, rfl, (K.Chg.refl _), K.Own.nil _ _ _ _⟩
  ·  -- not nil
    subst hp
    refine K.RW.q rfl rfl (K.QR.eqNil rfl rfl rfl Try.underlying32) ?_
    refine K.RW.nil ?_
    refine K.thn_normal ?_
    refine K.KW.ifF rfl ?_
    refine K.KW.skip ?_
    refine K.thn_normal ?_
    refine K.KW.seq ?_
    -- region 3 slices.go:362
    refine K.KW.region ?_
    refine K.RW.l rfl (K.OW.bs rfl [] [] rfl rfl (fun w => K.bs_run0 (P := Try.prog) w 32 22 0 _ _ Try.underlying32 (by kernel_rfl)) ?_) 
    intro w_1 r_2 hr_3 e_4 hs_5 b_6
    have c_7 := e_4
    have z_8 := c_7.size
    refine K.RW.q rfl rfl (K.QR.k (v := .slice (some p) xs.length cap) (by kernel_rfl)) ?_
    refine K.RW.l rfl (K.OW.appR (P := Try.prog) (c := cU64) (L := []) (L2 := xs) (z := .int .u64 0) (size := 1) (bytes := 8) rfl 0 rfl rfl (K.Own.of_blkL (base := w0.heap.size) (n := 0) (c := cU64) (L := []) b_6 (by omega) rfl (by unfold maxLen; omega) (fun _ => rfl) rfl) rfl Try.underlying32 (by kernel_rfl) rfl (by decide) rfl (hx.no c_7) (fun _ => rfl) (fun _ => K.one_cells rfl) (by unfold maxLen; omega) (by omega) (by omega) ?_) 
    intro a_9 cap_10 w_11 e_12 o_13 hn_14
    have c_15 := c_7.trans e_12 (fun i hi hy => absurd ((K.Own.of_blkL (base := w0.heap.size) (n := 0) (c := cU64) (L := []) b_6 (by omega) rfl (by unfold maxLen; omega) (fun _ => rfl) rfl).base_le i hy) (by omega))
    have z_16 := c_15.size
    have ln_17 : (([] ++ xs)).length = 0 + xs.length := by simp
    refine K.RW.q rfl rfl (K.QR.k (v := .slice a_9 (0 + xs.length) cap_10) (by kernel_rfl)) ?_
    refine K.RW.nil ?_
    refine K.thn_normal ?_
    refine K.KW.ret ?_
    refine ⟨.inr rfl, (.slice a_9 (0 + xs.length) cap_10), K.res1 rfl rfl, ?_⟩
    have h0 : 0 + xs.length = xs.length := Nat.zero_add _
    exact ⟨a_9, cap_10, by rw [h0], c_15, by rw [h0] at *; simpa using o_13⟩

theorem right_ge {l : List Chg3} (h : right l = true) {k : Nat} (hk : k < l.length) : 0 ≤ (l.getD k d3).at_ := by
  have := (right_spec h) k hk; unfold rightAt at this; omega
theorem right_lt {l : List Chg3} (h : right l = true) : ∀ {j k : Nat}, k < l.length → j < k → (l.getD j d3).at_ < (l.getD k d3).at_
  | j, 0, _, hj => by omega
  | j, k + 1, hk, hj => by
    have h1 := (right_spec h) (k + 1) hk
    unfold rightAt at h1
    rw [show k + 1 - 1 = k by omega] at h1
    by_cases hjk : j = k
    · subst hjk; omega
    · have := right_lt h (j := j) (k := k) (by omega) (by omega); omega
theorem right_le_last {l : List Chg3} (h : right l = true) {k : Nat} (hk : k < l.length) : (l.getD k d3).at_ ≤ (l.getD (l.length - 1) d3).at_ := by
  by_cases hj : k = l.length - 1
  · rw [← hj]; exact Int.le_refl _
  · have := right_lt h (j := k) (k := l.length - 1) (by omega) (by omega); omega

/-- the words behind the first k changes -/
def applyTo (xs : List Int) (l : List Chg3) : Nat → Option (List Int)
  | 0 => some xs
  | k + 1 => (applyTo xs l k).bind fun ys => if ys.getD (l.getD k d3).at_.toNat 0 = (l.getD k d3).old then some (ys.set (l.getD k d3).at_.toNat (l.getD k d3).new) else none
/-- what Apply answers: the error, the words -/
def apply (xs : List Int) (l : List Chg3) : Int × List Int :=
  if right l = false then (3, []) else
  if 0 < l.length ∧ (l.getD (l.length - 1) d3).at_ ≥ xs.length then (5, []) else
  match applyTo xs l l.length with
  | none => (9, [])
  | some ys => (0, ys)
theorem apply_3 {xs : List Int} {l : List Chg3} (h : right l = false) : apply xs l = (3, []) := if_pos h
theorem apply_5 {xs : List Int} {l : List Chg3} (h : right l = true) (h2 : 0 < l.length ∧ (l.getD (l.length - 1) d3).at_ ≥ xs.length) : apply xs l = (5, []) := by
  unfold apply; rw [if_neg (by rw [h]; simp), if_pos h2]
theorem applyTo_none {xs : List Int} {l : List Chg3} {k : Nat} (h : applyTo xs l k = none) : ∀ m, applyTo xs l (k + m) = none
  | 0 => h
  | m + 1 => by show (applyTo xs l (k + m)).bind _ = none; rw [applyTo_none h m]; rfl
theorem apply_9 {xs : List Int} {l : List Chg3} {k : Nat} {ys : List Int} (h : right l = true) (h2 : ¬ (0 < l.length ∧ (l.getD (l.length - 1) d3).at_ ≥ xs.length)) (hk : k < l.length)
    (hy : applyTo xs l k = some ys) (hne : ¬ ys.getD (l.getD k d3).at_.toNat 0 = (l.getD k d3).old) : apply xs l = (9, []) := by
  have h1 : applyTo xs l (k + 1) = none := by show (applyTo xs l k).bind _ = none; rw [hy]; exact if_neg hne
  have h3 := applyTo_none h1 (l.length - (k + 1))
  rw [show k + 1 + (l.length - (k + 1)) = l.length by omega] at h3
  unfold apply; rw [if_neg (by rw [h]; simp), if_neg h2, h3]
theorem apply_0 {xs : List Int} {l : List Chg3} {ys : List Int} (h : right l = true) (h2 : ¬ (0 < l.length ∧ (l.getD (l.length - 1) d3).at_ ≥ xs.length)) (hy : applyTo xs l l.length = some ys) : apply xs l = (0, ys) := by
  unfold apply; rw [if_neg (by rw [h]; simp), if_neg h2, hy]
theorem applyTo_succ {xs : List Int} {l : List Chg3} {k : Nat} {ys : List Int} (hy : applyTo xs l k = some ys) (he : ys.getD (l.getD k d3).at_.toNat 0 = (l.getD k d3).old) :
    applyTo xs l (k + 1) = some (ys.set (l.getD k d3).at_.toNat (l.getD k d3).new) := by show (applyTo xs l k).bind _ = _; rw [hy]; exact if_pos he

set_option maxHeartbeats 1000000 in
set_option maxRecDepth 100000 in
theorem apply_ok (a b : Option Addr) (cap cap' : Nat) (xs : List Int) (l : List Chg3) (w0 : World) (hm : xs.length * 8 ≤ 140737488351232) (hm' : l.length ≤ 9223372036854775807) (hx : RU64 w0 a xs) (hl : RCh w0 b l) :
    K.KC Try.prog 26 #[.slice a xs.length cap, .slice b l.length cap'] w0 (fun v w' => ∃ r m c, v = .tuple #[.slice r m c, .int .i64 (apply xs l).1] ∧ K.Chg K.No w0 w' ∧ K.Own w' w0.heap.size 22 1 r m c (((apply xs l).2).flatMap cU64) ∧ (apply xs l).2.length = m) := by
  refine K.KC.mk (n := 53) Try.func26 rfl rfl [.slice a xs.length cap, .slice b l.length cap'] rfl rfl ?_
  refine K.KW.seq ?_
  -- region 0 diff.go:41
  refine K.KW.region ?_
  refine K.RW.q rfl rfl (K.QR.k (v := .slice none 0 0) (by kernel_rfl)) ?_
  refine K.RW.q rfl rfl (K.QR.k (v := .int .i64 0) (by kernel_rfl)) ?_
  refine K.RW.nil ?_
  refine K.thn_normal ?_
  refine K.KW.seq ?_
  refine K.KW.block ?_
  refine K.KW.seq ?_
  -- region 1 diff.go:43
  refine K.KW.region ?_
  refine K.RW.q rfl rfl (K.QR.k (v := .slice b l.length cap') (by kernel_rfl)) ?_
  refine K.RW.l rfl (K.OW.call rfl [.slice b l.length cap'] rfl rfl (by kernel_rfl) (right_ok _ _ l _ (by first | omega | (simp; omega) | simp) hl) ?_) 
  rintro v_4 w_2 ⟨hv_3, c_1⟩
  have c_5 := c_1
  have z_6 := c_5.size
  rcases Bool.eq_false_or_eq_true (right l) with hb_7 | hb_7
  ·  -- True
    rw [hb_7] at hv_3; subst hv_3
    refine K.RW.q rfl rfl (K.QR.k (v := .bool false) (by kernel_rfl)) ?_
    refine K.RW.q rfl rfl (K.QR.k (v := .bool false) (by kernel_rfl)) ?_
    refine K.RW.nil ?_
    refine K.thn_normal ?_
    refine K.KW.ifF rfl ?_
    refine K.KW.seq ?_
    -- region 3 diff.go:45
    refine K.KW.region ?_
    refine K.RW.q rfl rfl (K.QR.k (v := .slice b l.length cap') (by kernel_rfl)) ?_
    refine K.RW.q rfl rfl (K.QR.len (P := Try.prog) rfl rfl Try.underlying42) ?_
    by_cases h_8 : (((l.length : Nat) : Int) : Int) > (0 : Int)
    ·  -- yes
      refine K.RW.q rfl rfl (K.QR.nice (v := .bool (decide ((((l.length : Nat) : Int) : Int) > (0 : Int)))) (by kernel_rfl) (congrArg Value.bool (decide_eq_true h_8))) ?_
      refine K.RW.q rfl rfl (K.QR.k (v := .bool true) (by kernel_rfl)) ?_
      refine K.RW.q rfl (by kernel_rfl) (K.QR.k (v := .slice b l.length cap') (by kernel_rfl)) ?_
      refine K.RW.q rfl (by kernel_rfl) (K.QR.k (v := .slice b l.length cap') (by kernel_rfl)) ?_
      refine K.RW.q rfl (by kernel_rfl) (K.QR.len (P := Try.prog) rfl rfl Try.underlying42) ?_
      refine K.RW.q rfl (by kernel_rfl) (K.QR.n64 ((((l.length : Nat) : Int) : Int) - (1 : Int)) ((l.length - 1 : Nat) : Int) (by kernel_rfl) (by omega)) ?_
      obtain ⟨b_9, of_10, rfl, _⟩ := hl.at_ (by omega)
      refine K.RW.q rfl (by kernel_rfl) (K.QR.ix (of_10 + (l.length - 1) * 3) 3 rfl rfl rfl Try.underlying42 (by kernel_rfl) (by omega) (by simp)) ?_
      refine K.RW.q rfl (by kernel_rfl) (K.QR.k (v := .pointer (some ⟨b_9, of_10 + (l.length - 1) * 3, none⟩)) (by kernel_rfl)) ?_
      refine K.RW.q rfl (by kernel_rfl) (K.QR.ld1 (v := .int .i64 ((l.getD (l.length - 1) d3).at_)) rfl rfl (by kernel_rfl) (c_5.cell (hl.ld (l.length - 1) (by omega) 0 _ rfl) id)) ?_
      refine K.RW.q rfl (by kernel_rfl) (K.QR.k (v := .slice a xs.length cap) (by kernel_rfl)) ?_
      refine K.RW.q rfl (by kernel_rfl) (K.QR.len (P := Try.prog) rfl rfl Try.underlying32) ?_
      by_cases h_11 : ((l.getD (l.length - 1) d3).at_ : Int) ≥ (((xs.length : Nat) : Int) : Int)
      ·  -- yes
        refine K.RW.q rfl (by kernel_rfl) (K.QR.nice (v := .bool (decide (((l.getD (l.length - 1) d3).at_ : Int) ≥ (((xs.length : Nat) : Int) : Int)))) (by kernel_rfl) (congrArg Value.bool (decide_eq_true h_11))) ?_
        refine K.RW.q rfl rfl (K.QR.k (v := .bool true) (by kernel_rfl)) ?_
        refine K.RW.q rfl rfl (K.QR.k (v := .bool true) (by kernel_rfl)) ?_
        refine K.RW.nil ?_
        refine K.thn_normal ?_
        refine K.KW.ifT rfl ?_
        refine K.KW.seq ?_
        -- region 4 diff.go:46
        refine K.KW.region ?_
        refine K.RW.q rfl rfl (K.QR.k (v := .slice none 0 0) (by kernel_rfl)) ?_
        refine K.RW.q rfl rfl (K.QR.k (v := .int .i64 5) (by kernel_rfl)) ?_
        refine K.RW.nil ?_
        refine K.thn_normal ?_
        refine K.KW.ret ?_
        refine K.blk_ret ?_
        refine K.thn_ret ?_
        refine ⟨.inr rfl, (.tuple #[.slice none 0 0, .int .i64 5]), K.res2 rfl rfl rfl, ?_⟩
        rw [apply_5 (by assumption) ⟨by omega, by omega⟩]
        exact ⟨_, _, _, rfl, c_5, K.Own.nil _ _ _ _, rfl⟩
      ·  -- no
        refine K.RW.q rfl (by kernel_rfl) (K.QR.nice (v := .bool (decide (((l.getD (l.length - 1) d3).at_ : Int) ≥ (((xs.length : Nat) : Int) : Int)))) (by kernel_rfl) (congrArg Value.bool (decide_eq_false h_11))) ?_
        refine K.RW.q rfl rfl (K.QR.k (v := .bool false) (by kernel_rfl)) ?_
        refine K.RW.q rfl rfl (K.QR.k (v := .bool false) (by kernel_rfl)) ?_
        refine K.RW.nil ?_
        refine K.thn_normal ?_
        refine K.KW.ifF rfl ?_
        refine K.KW.skip ?_
        refine K.blk_normal ?_
        refine K.thn_normal ?_
        refine K.KW.seq ?_
        -- region 5 diff.go:48
        refine K.KW.region ?_
        refine K.RW.q rfl rfl (K.QR.k (v := .slice a xs.length cap) (by kernel_rfl)) ?_
        refine K.RW.l rfl (K.OW.call rfl [.slice a xs.length cap] rfl rfl (by kernel_rfl) (cloneU64_ok _ _ xs _ (by omega) (hx.no c_5)) ?_) 
        rintro _ w_16 ⟨r_12, cc_13, rfl, c_14, o_15⟩
        have c_17 := c_5.no c_14
        have z_18 := c_17.size
        have o_19 := K.Own.mono (base' := w0.heap.size) o_15 (by omega)
        refine K.RW.q rfl rfl (K.QR.k (v := .slice r_12 xs.length cc_13) (by kernel_rfl)) ?_
        refine K.RW.nil ?_
        refine K.thn_normal ?_
        refine K.KW.seq ?_
        refine K.KW.seq ?_
        -- region 6 diff.go:49
        refine K.KW.region ?_
        refine K.RW.q rfl rfl (K.QR.k (v := .slice (some ⟨b_9, of_10, none⟩) l.length cap') (by kernel_rfl)) ?_
        refine K.RW.q rfl rfl (K.QR.len (P := Try.prog) rfl rfl Try.underlying42) ?_
        refine K.RW.q rfl rfl (K.QR.k (v := .int .i64 0) (by kernel_rfl)) ?_
        refine K.RW.nil ?_
        refine K.thn_normal ?_
        refine K.KW.block ?_
        refine K.KW.loop (fun m_ F_ w_20 => ∃ (k : Nat) (ys : List Int) (r : Option Addr) (c1 : Nat), m_ = l.length - k ∧ K.Sl F_ [(0, .slice a xs.length cap), (1, .slice (some ⟨b_9, of_10, none⟩) l.length cap'), (6, .slice r xs.length c1), (31, .slice (some ⟨b_9, of_10, none⟩) l.length cap'), (32, .int .i64 ((l.length : Nat) : Int)), (33, .int .i64 ((k : Nat) : Int))] ∧ k ≤ l.length ∧ ys.length = xs.length ∧ applyTo xs l k = some ys ∧ K.Chg K.No w0 w_20 ∧ K.Own w_20 w0.heap.size 22 1 r xs.length c1 ((ys).flatMap cU64)) ((fun (k : Nat) (ys : List Int) (r : Option Addr) (c1 : Nat) => l.length - k) 0 xs r_12 cc_13) ?_ ?_
        · -- the loop begins
          exact ⟨0, xs, r_12, cc_13, rfl, ⟨by rfl, by rfl, by rfl, by rfl, by rfl, by rfl, trivial⟩, (by omega), (rfl), (rfl), c_17, o_19⟩
        · -- a round
          intro m_21 F_22 w_20 hI
          obtain ⟨k, ys, r, c1, rfl, sl_23, p_25, p_26, p_27, c_24, f_28⟩ := hI
          rw [← K.Sl.puts sl_23]; clear sl_23
          have z_29 := c_24.size
          have hk0 : k < l.length → 0 ≤ (l.getD k d3).at_ := fun h => right_ge (by assumption) h
          have hk1 : k < l.length → (l.getD k d3).at_ ≤ (l.getD (l.length - 1) d3).at_ := fun h => right_le_last (by assumption) h
          refine K.KW.seq ?_
          -- region 7 diff.go:49
          refine K.KW.region ?_
          by_cases h_30 : (((k : Nat) : Int) : Int) < (((l.length : Nat) : Int) : Int)
          ·  -- yes
            refine K.RW.q rfl rfl (K.QR.nice (v := .bool (decide ((((k : Nat) : Int) : Int) < (((l.length : Nat) : Int) : Int)))) (by kernel_rfl) (congrArg Value.bool (decide_eq_true h_30))) ?_
            refine K.RW.nil ?_
            refine K.thn_normal ?_
            refine K.KW.seq ?_
            refine K.KW.ifT rfl ?_
            refine K.KW.skip ?_
            refine K.thn_normal ?_
            refine K.KW.seq ?_
            refine K.KW.block ?_
            refine K.KW.seq ?_
            -- region 8 diff.go:49
            refine K.KW.region ?_
            refine K.RW.q rfl rfl (K.QR.ix (of_10 + k * 3) 3 rfl rfl rfl Try.underlying42 (by kernel_rfl) (by omega) (by simp)) ?_
            refine K.RW.q rfl rfl (K.QR.ldN [.int .i64 ((l.getD k d3).at_), .int .u64 ((l.getD k d3).old), .int .u64 ((l.getD k d3).new)] rfl rfl (by kernel_rfl) (by kernel_rfl) (K.cells (K.cl (c_24.cell (hl.ld k (by omega) 0 _ rfl) id) (K.cl (c_24.cell (hl.ld k (by omega) 1 _ rfl) id) (K.cl (c_24.cell (hl.ld k (by omega) 2 _ rfl) id) K.cl0))))) ?_
            refine K.RW.l rfl (K.OW.new (t := 46) rfl (fun r => .pointer (some ⟨r, 0, none⟩)) [.int .i64 0, .int .u64 0, .int .u64 0] (by kernel_rfl) ?_) 
            intro w_31 r_32 hr_33 e_34 hs_35 b_36
            have c_37 := c_24.no e_34
            have z_38 := c_37.size
            have f_39 := f_28.no e_34
            refine K.RW.l rfl (K.OW.st [.int .i64 ((l.getD k d3).at_), .int .u64 ((l.getD k d3).old), .int .u64 ((l.getD k d3).new)] [.int .i64 ((l.getD k d3).at_), .int .u64 ((l.getD k d3).old), .int .u64 ((l.getD k d3).new)] rfl rfl rfl (by kernel_rfl) b_36 rfl (K.one_cells (by rfl)) rfl rfl ?_) 
            intro w_40 e_41 hs_42 b_43
            have c_44 := c_37.own e_41 (by omega)
            have z_45 := c_44.size
            have f_46 := f_39.chg e_41 (fun k hk hy => f_39.ne_ty b_36 (by decide) k hk hy)
            refine K.RW.nil ?_
            refine K.thn_normal ?_
            refine K.KW.seq ?_
            refine K.KW.seq ?_
            -- region 9 diff.go:50
            obtain ⟨b_47, rfl, gb_49, gl_50⟩ := f_46.some_ (by omega)
            refine K.KW.drawn (fun w => K.Chg K.No w0 w ∧ K.Own w w0.heap.size 22 1 (some ⟨b_47, 0, none⟩) xs.length c1 ((ys).flatMap cU64) ∧ K.Blk w r_32 46 [.int .i64 ((l.getD k d3).at_), .int .u64 ((l.getD k d3).old), .int .u64 ((l.getD k d3).new)]) (by kernel_rfl) ?_
            intro w_51 e_52 hs_53
            have c_55 := c_44.no e_52
            have z_56 := c_55.size
            have f_57 := f_46.no e_52
            have f_58 := b_43.no e_52
            have hS_54 : (fun w => K.Chg K.No w0 w ∧ K.Own w w0.heap.size 22 1 (some ⟨b_47, 0, none⟩) xs.length c1 ((ys).flatMap cU64) ∧ K.Blk w r_32 46 [.int .i64 ((l.getD k d3).at_), .int .u64 ((l.getD k d3).old), .int .u64 ((l.getD k d3).new)]) w_51 := ⟨c_55, f_57, f_58⟩
            refine K.DW.q 0 (by kernel_rfl) rfl rfl (by kernel_rfl) rfl (fun w hS => K.QR.k (v := .slice (some ⟨b_47, 0, none⟩) xs.length c1) (by kernel_rfl)) hS_54 ?_
            refine K.DW.q 1 (by kernel_rfl) rfl rfl (by kernel_rfl) rfl (fun w hS => K.QR.k (v := .pointer (some ⟨r_32, 0, none⟩)) (by kernel_rfl)) hS_54 ?_
            refine K.DW.q 2 (by kernel_rfl) rfl rfl (by kernel_rfl) rfl (fun w hS => K.QR.ld1 (v := .int .i64 ((l.getD k d3).at_)) rfl rfl (by kernel_rfl) (hS.2.2.cell rfl)) hS_54 ?_
            refine K.DW.q 3 (by kernel_rfl) rfl rfl (by kernel_rfl) rfl (fun w hS => K.QR.ix (0 + (((l.getD k d3).at_).toNat) * 1) 1 rfl rfl rfl Try.underlying32 (by kernel_rfl) (by omega) (by simp)) hS_54 ?_
            refine K.DW.q 4 (by kernel_rfl) rfl rfl (by kernel_rfl) rfl (fun w hS => K.QR.ld1 (v := .int .u64 (ys.getD (((l.getD k d3).at_).toNat) 0)) rfl rfl (by kernel_rfl) ((K.Own.rowE 0 hS.2.1 p_26 (fun _ => rfl)).ld (((l.getD k d3).at_).toNat) (by omega) 0 _ rfl)) hS_54 ?_
            refine K.DW.q 5 (by kernel_rfl) rfl rfl (by kernel_rfl) rfl (fun w hS => K.QR.k (v := .pointer (some ⟨r_32, 1, none⟩)) (by kernel_rfl)) hS_54 ?_
            refine K.DW.q 6 (by kernel_rfl) rfl rfl (by kernel_rfl) rfl (fun w hS => K.QR.ld1 (v := .int .u64 ((l.getD k d3).old)) rfl rfl (by kernel_rfl) (hS.2.2.cell rfl)) hS_54 ?_
            by_cases h_59 : (ys.getD (((l.getD k d3).at_).toNat) 0 : Int) = ((l.getD k d3).old : Int)
            ·  -- yes
              refine K.DW.q 7 (by kernel_rfl) rfl rfl (by kernel_rfl) rfl (fun w hS => K.QR.nice (v := .bool ((ys.getD (((l.getD k d3).at_).toNat) 0 : Int) != ((l.getD k d3).old : Int))) (by kernel_rfl) (congrArg Value.bool (bne_eq_false_iff_eq.2 h_59))) hS_54 ?_
              refine K.DW.done (by kernel_rfl) ?_
              refine K.thn_normal ?_
              refine K.KW.ifF rfl ?_
              refine K.KW.skip ?_
              refine K.thn_normal ?_
              -- region 11 diff.go:53
              refine K.KW.region ?_
              refine K.RW.q rfl rfl (K.QR.k (v := .slice (some ⟨b_47, 0, none⟩) xs.length c1) (by kernel_rfl)) ?_
              refine K.RW.q rfl rfl (K.QR.k (v := .pointer (some ⟨r_32, 0, none⟩)) (by kernel_rfl)) ?_
              refine K.RW.q rfl rfl (K.QR.ld1 (v := .int .i64 ((l.getD k d3).at_)) rfl rfl (by kernel_rfl) (f_58.cell rfl)) ?_
              refine K.RW.q rfl rfl (K.QR.k (v := .pointer (some ⟨r_32, 2, none⟩)) (by kernel_rfl)) ?_
              refine K.RW.q rfl rfl (K.QR.ld1 (v := .int .u64 ((l.getD k d3).new)) rfl rfl (by kernel_rfl) (f_58.cell rfl)) ?_
              refine K.RW.q rfl rfl (K.QR.ix (0 + (((l.getD k d3).at_).toNat) * 1) 1 rfl rfl rfl Try.underlying32 (by kernel_rfl) (by omega) (by simp)) ?_
              refine K.RW.l rfl (K.OW.sto (P := Try.prog) (c := cU64) (L := ys) (size := 1) 0 (((l.getD k d3).at_).toNat) 0 [.int .u64 ((l.getD k d3).new)] ((l.getD k d3).new : Int) rfl rfl rfl (by kernel_rfl) f_57 p_26 (by omega) (fun _ => rfl) rfl (K.one_cells (by rfl)) rfl rfl ?_) 
              intro w_60 e_61 hs_62 o_63
              have c_65 := c_55.own e_61 (by omega)
              have z_66 := c_65.size
              have f_67 := f_58.chg e_61 (fun hk => f_57.ne_ty f_58 (by decide) _ ⟨_, rfl, rfl⟩ hk.symm)
              have ln_64 : ((ys.set (((l.getD k d3).at_).toNat) ((l.getD k d3).new : Int))).length = xs.length := by rw [List.length_set]; exact p_26
              refine K.RW.nil ?_
              refine K.blk_normal ?_
              refine K.thn_normal ?_
              -- region 12 diff.go:49
              refine K.KW.region ?_
              refine K.RW.q rfl rfl (K.QR.n64 ((((k : Nat) : Int) : Int) + (1 : Int)) ((k + 1 : Nat) : Int) (by kernel_rfl) (by omega)) ?_
              refine K.RW.q rfl rfl (K.QR.k (v := .int .i64 ((k + 1 : Nat) : Int)) (by kernel_rfl)) ?_
              refine K.RW.nil ?_
              refine K.thn_normal ?_
              refine ⟨_, ?_, k + 1, (ys.set (((l.getD k d3).at_).toNat) ((l.getD k d3).new : Int)), _, c1, rfl, ⟨by rfl, by rfl, by rfl, by rfl, by rfl, by rfl, trivial⟩, (by omega), (ln_64), (applyTo_succ (by assumption) (by assumption)), c_65, o_63⟩
              omega
            ·  -- no
              refine K.DW.q 7 (by kernel_rfl) rfl rfl (by kernel_rfl) rfl (fun w hS => K.QR.nice (v := .bool ((ys.getD (((l.getD k d3).at_).toNat) 0 : Int) != ((l.getD k d3).old : Int))) (by kernel_rfl) (congrArg Value.bool (bne_iff_ne.2 h_59))) hS_54 ?_
              refine K.DW.done (by kernel_rfl) ?_
              refine K.thn_normal ?_
              refine K.KW.ifT rfl ?_
              refine K.KW.seq ?_
              -- region 10 diff.go:51
              refine K.KW.region ?_
              refine K.RW.q rfl rfl (K.QR.k (v := .slice none 0 0) (by kernel_rfl)) ?_
              refine K.RW.q rfl rfl (K.QR.k (v := .int .i64 9) (by kernel_rfl)) ?_
              refine K.RW.nil ?_
              refine K.thn_normal ?_
              refine K.KW.ret ?_
              refine K.thn_ret ?_
              refine K.blk_ret ?_
              refine K.thn_ret ?_
              refine K.thn_ret ?_
              refine K.blk_ret ?_
              refine K.thn_ret ?_
              refine ⟨.inr rfl, (.tuple #[.slice none 0 0, .int .i64 9]), K.res2 rfl rfl rfl, ?_⟩
              rw [apply_9 (k := k) (by assumption) (by omega) (by omega) (by assumption) (by assumption)]
              exact ⟨_, _, _, rfl, c_55, K.Own.nil _ _ _ _, rfl⟩
          ·  -- no
            refine K.RW.q rfl rfl (K.QR.nice (v := .bool (decide ((((k : Nat) : Int) : Int) < (((l.length : Nat) : Int) : Int)))) (by kernel_rfl) (congrArg Value.bool (decide_eq_false h_30))) ?_
            refine K.RW.nil ?_
            refine K.thn_normal ?_
            refine K.KW.seq ?_
            refine K.KW.ifF rfl ?_
            refine K.KW.exit ?_
            refine K.thn_exit ?_
            refine K.thn_exit ?_
            refine K.blk_hit ?_
            refine K.thn_normal ?_
            refine K.KW.seq ?_
            -- region 13 diff.go:55
            refine K.KW.region ?_
            refine K.RW.q rfl rfl (K.QR.k (v := .slice r xs.length c1) (by kernel_rfl)) ?_
            refine K.RW.q rfl rfl (K.QR.k (v := .slice r xs.length c1) (by kernel_rfl)) ?_
            refine K.RW.q rfl rfl (K.QR.k (v := .int .i64 0) (by kernel_rfl)) ?_
            refine K.RW.nil ?_
            refine K.thn_normal ?_
            refine K.KW.ret ?_
            refine ⟨.inr rfl, (.tuple #[.slice r xs.length c1, .int .i64 0]), K.res2 rfl rfl rfl, ?_⟩
            obtain rfl : k = l.length := by omega
            rw [apply_0 (by assumption) (by omega) (by assumption)]
            exact ⟨_, _, _, rfl, c_24, f_28, by assumption⟩
    ·  -- no
      refine K.RW.q rfl rfl (K.QR.nice (v := .bool (decide ((((l.length : Nat) : Int) : Int) > (0 : Int)))) (by kernel_rfl) (congrArg Value.bool (decide_eq_false h_8))) ?_
      refine K.RW.q rfl rfl (K.QR.k (v := .bool false) (by kernel_rfl)) ?_
      refine K.RW.skip rfl (by kernel_rfl) ?_
      refine K.RW.skip rfl (by kernel_rfl) ?_
      refine K.RW.skip rfl (by kernel_rfl) ?_
      refine K.RW.skip rfl (by kernel_rfl) ?_
      refine K.RW.skip rfl (by kernel_rfl) ?_
      refine K.RW.skip rfl (by kernel_rfl) ?_
      refine K.RW.skip rfl (by kernel_rfl) ?_
      refine K.RW.skip rfl (by kernel_rfl) ?_
      refine K.RW.skip rfl (by kernel_rfl) ?_
      refine K.RW.skip rfl (by kernel_rfl) ?_
      refine K.RW.q rfl rfl (K.QR.k (v := .bool false) (by kernel_rfl)) ?_
      refine K.RW.q rfl rfl (K.QR.k (v := .bool false) (by kernel_rfl)) ?_
      refine K.RW.nil ?_
      refine K.thn_normal ?_
      refine K.KW.ifF rfl ?_
      refine K.KW.skip ?_
      refine K.blk_normal ?_
      refine K.thn_normal ?_
      refine K.KW.seq ?_
      -- region 5 diff.go:48
      refine K.KW.region ?_
      refine K.RW.q rfl rfl (K.QR.k (v := .slice a xs.length cap) (by kernel_rfl)) ?_
      refine K.RW.l rfl (K.OW.call rfl [.slice a xs.length cap] rfl rfl (by kernel_rfl) (cloneU64_ok _ _ xs _ (by omega) (hx.no c_5)) ?_) 
      rintro _ w_72 ⟨r_68, cc_69, rfl, c_70, o_71⟩
      have c_73 := c_5.no c_70
      have z_74 := c_73.size
      have o_75 := K.Own.mono (base' := w0.heap.size) o_71 (by omega)
      refine K.RW.q rfl rfl (K.QR.k (v := .slice r_68 xs.length cc_69) (by kernel_rfl)) ?_
      refine K.RW.nil ?_
      refine K.thn_normal ?_
      refine K.KW.seq ?_
      refine K.KW.seq ?_
      -- region 6 diff.go:49
      refine K.KW.region ?_
      refine K.RW.q rfl rfl (K.QR.k (v := .slice b l.length cap') (by kernel_rfl)) ?_
      refine K.RW.q rfl rfl (K.QR.len (P := Try.prog) rfl rfl Try.underlying42) ?_
      refine K.RW.q rfl rfl (K.QR.k (v := .int .i64 0) (by kernel_rfl)) ?_
      refine K.RW.nil ?_
      refine K.thn_normal ?_
      refine K.KW.block ?_
      refine K.KW.loop (fun m_ F_ w_76 => ∃ (k : Nat) (ys : List Int) (r : Option Addr) (c1 : Nat), m_ = l.length - k ∧ K.Sl F_ [(0, .slice a xs.length cap), (1, .slice b l.length cap'), (6, .slice r xs.length c1), (31, .slice b l.length cap'), (32, .int .i64 ((l.length : Nat) : Int)), (33, .int .i64 ((k : Nat) : Int))] ∧ k ≤ l.length ∧ ys.length = xs.length ∧ applyTo xs l k = some ys ∧ K.Chg K.No w0 w_76 ∧ K.Own w_76 w0.heap.size 22 1 r xs.length c1 ((ys).flatMap cU64)) ((fun (k : Nat) (ys : List Int) (r : Option Addr) (c1 : Nat) => l.length - k) 0 xs r_68 cc_69) ?_ ?_
      · -- the loop begins
        exact ⟨0, xs, r_68, cc_69, rfl, ⟨by rfl, by rfl, by rfl, by rfl, by rfl, by rfl, trivial⟩, (by omega), (rfl), (rfl), c_73, o_75⟩
      · -- a round
        intro m_77 F_78 w_76 hI
        obtain ⟨k, ys, r, c1, rfl, sl_79, p_81, p_82, p_83, c_80, f_84⟩ := hI
        rw [← K.Sl.puts sl_79]; clear sl_79
        have z_85 := c_80.size
        have hk0 : k < l.length → 0 ≤ (l.getD k d3).at_ := fun h => right_ge (by assumption) h
        have hk1 : k < l.length → (l.getD k d3).at_ ≤ (l.getD (l.length - 1) d3).at_ := fun h => right_le_last (by assumption) h
        refine K.KW.seq ?_
        -- region 7 diff.go:49
        refine K.KW.region ?_
        by_cases h_86 : (((k : Nat) : Int) : Int) < (((l.length : Nat) : Int) : Int)
        ·  -- yes
          refine K.RW.q rfl rfl (K.QR.nice (v := .bool (decide ((((k : Nat) : Int) : Int) < (((l.length : Nat) : Int) : Int)))) (by kernel_rfl) (congrArg Value.bool (decide_eq_true h_86))) ?_
          refine K.RW.nil ?_
          refine K.thn_normal ?_
          refine K.KW.seq ?_
          refine K.KW.ifT rfl ?_
          refine K.KW.skip ?_
          refine K.thn_normal ?_
          refine K.KW.seq ?_
          refine K.KW.block ?_
          refine K.KW.seq ?_
          -- region 8 diff.go:49
          obtain ⟨b_87, of_88, rfl, _⟩ := hl.at_ (by omega)
          refine K.KW.region ?_
          refine K.RW.q rfl rfl (K.QR.ix (of_88 + k * 3) 3 rfl rfl rfl Try.underlying42 (by kernel_rfl) (by omega) (by simp)) ?_
          refine K.RW.q rfl rfl (K.QR.ldN [.int .i64 ((l.getD k d3).at_), .int .u64 ((l.getD k d3).old), .int .u64 ((l.getD k d3).new)] rfl rfl (by kernel_rfl) (by kernel_rfl) (K.cells (K.cl (c_80.cell (hl.ld k (by omega) 0 _ rfl) id) (K.cl (c_80.cell (hl.ld k (by omega) 1 _ rfl) id) (K.cl (c_80.cell (hl.ld k (by omega) 2 _ rfl) id) K.cl0))))) ?_
          refine K.RW.l rfl (K.OW.new (t := 46) rfl (fun r => .pointer (some ⟨r, 0, none⟩)) [.int .i64 0, .int .u64 0, .int .u64 0] (by kernel_rfl) ?_) 
          intro w_89 r_90 hr_91 e_92 hs_93 b_94
          have c_95 := c_80.no e_92
          have z_96 := c_95.size
          have f_97 := f_84.no e_92
          refine K.RW.l rfl (K.OW.st [.int .i64 ((l.getD k d3).at_), .int .u64 ((l.getD k d3).old), .int .u64 ((l.getD k d3).new)] [.int .i64 ((l.getD k d3).at_), .int .u64 ((l.getD k d3).old), .int .u64 ((l.getD k d3).new)] rfl rfl rfl (by kernel_rfl) b_94 rfl (K.one_cells (by rfl)) rfl rfl ?_) 
          intro w_98 e_99 hs_100 b_101
          have c_102 := c_95.own e_99 (by omega)
          have z_103 := c_102.size
          have f_104 := f_97.chg e_99 (fun k hk hy => f_97.ne_ty b_94 (by decide) k hk hy)
          refine K.RW.nil ?_
          refine K.thn_normal ?_
          refine K.KW.seq ?_
          refine K.KW.seq ?_
          -- region 9 diff.go:50
          obtain ⟨b_105, rfl, gb_107, gl_108⟩ := f_104.some_ (by omega)
          refine K.KW.drawn (fun w => K.Chg K.No w0 w ∧ K.Own w w0.heap.size 22 1 (some ⟨b_105, 0, none⟩) xs.length c1 ((ys).flatMap cU64) ∧ K.Blk w r_90 46 [.int .i64 ((l.getD k d3).at_), .int .u64 ((l.getD k d3).old), .int .u64 ((l.getD k d3).new)]) (by kernel_rfl) ?_
          intro w_109 e_110 hs_111
          have c_113 := c_102.no e_110
          have z_114 := c_113.size
          have f_115 := f_104.no e_110
          have f_116 := b_101.no e_110
          have hS_112 : (fun w => K.Chg K.No w0 w ∧ K.Own w w0.heap.size 22 1 (some ⟨b_105, 0, none⟩) xs.length c1 ((ys).flatMap cU64) ∧ K.Blk w r_90 46 [.int .i64 ((l.getD k d3).at_), .int .u64 ((l.getD k d3).old), .int .u64 ((l.getD k d3).new)]) w_109 := ⟨c_113, f_115, f_116⟩
          refine K.DW.q 0 (by kernel_rfl) rfl rfl (by kernel_rfl) rfl (fun w hS => K.QR.k (v := .slice (some ⟨b_105, 0, none⟩) xs.length c1) (by kernel_rfl)) hS_112 ?_
          refine K.DW.q 1 (by kernel_rfl) rfl rfl (by kernel_rfl) rfl (fun w hS => K.QR.k (v := .pointer (some ⟨r_90, 0, none⟩)) (by kernel_rfl)) hS_112 ?_
          refine K.DW.q 2 (by kernel_rfl) rfl rfl (by kernel_rfl) rfl (fun w hS => K.QR.ld1 (v := .int .i64 ((l.getD k d3).at_)) rfl rfl (by kernel_rfl) (hS.2.2.cell rfl)) hS_112 ?_
          refine K.DW.q 3 (by kernel_rfl) rfl rfl (by kernel_rfl) rfl (fun w hS => K.QR.ix (0 + (((l.getD k d3).at_).toNat) * 1) 1 rfl rfl rfl Try.underlying32 (by kernel_rfl) (by omega) (by simp)) hS_112 ?_
          refine K.DW.q 4 (by kernel_rfl) rfl rfl (by kernel_rfl) rfl (fun w hS => K.QR.ld1 (v := .int .u64 (ys.getD (((l.getD k d3).at_).toNat) 0)) rfl rfl (by kernel_rfl) ((K.Own.rowE 0 hS.2.1 p_82 (fun _ => rfl)).ld (((l.getD k d3).at_).toNat) (by omega) 0 _ rfl)) hS_112 ?_
          refine K.DW.q 5 (by kernel_rfl) rfl rfl (by kernel_rfl) rfl (fun w hS => K.QR.k (v := .pointer (some ⟨r_90, 1, none⟩)) (by kernel_rfl)) hS_112 ?_
          refine K.DW.q 6 (by kernel_rfl) rfl rfl (by kernel_rfl) rfl (fun w hS => K.QR.ld1 (v := .int .u64 ((l.getD k d3).old)) rfl rfl (by kernel_rfl) (hS.2.2.cell rfl)) hS_112 ?_
          by_cases h_117 : (ys.getD (((l.getD k d3).at_).toNat) 0 : Int) = ((l.getD k d3).old : Int)
          ·  -- yes
            refine K.DW.q 7 (by kernel_rfl) rfl rfl (by kernel_rfl) rfl (fun w hS => K.QR.nice (v := .bool ((ys.getD (((l.getD k d3).at_).toNat) 0 : Int) != ((l.getD k d3).old : Int))) (by kernel_rfl) (congrArg Value.bool (bne_eq_false_iff_eq.2 h_117))) hS_112 ?_
            refine K.DW.done (by kernel_rfl) ?_
            refine K.thn_normal ?_
            refine K.KW.ifF rfl ?_
            refine K.KW.skip ?_
            refine K.thn_normal ?_
            -- region 11 diff.go:53
            refine K.KW.region ?_
            refine K.RW.q rfl rfl (K.QR.k (v := .slice (some ⟨b_105, 0, none⟩) xs.length c1) (by kernel_rfl)) ?_
            refine K.RW.q rfl rfl (K.QR.k (v := .pointer (some ⟨r_90, 0, none⟩)) (by kernel_rfl)) ?_
            refine K.RW.q rfl rfl (K.QR.ld1 (v := .int .i64 ((l.getD k d3).at_)) rfl rfl (by kernel_rfl) (f_116.cell rfl)) ?_
            refine K.RW.q rfl rfl (K.QR.k (v := .pointer (some ⟨r_90, 2, none⟩)) (by kernel_rfl)) ?_
            refine K.RW.q rfl rfl (K.QR.ld1 (v := .int .u64 ((l.getD k d3).new)) rfl rfl (by kernel_rfl) (f_116.cell rfl)) ?_
            refine K.RW.q rfl rfl (K.QR.ix (0 + (((l.getD k d3).at_).toNat) * 1) 1 rfl rfl rfl Try.underlying32 (by kernel_rfl) (by omega) (by simp)) ?_
            refine K.RW.l rfl (K.OW.sto (P := Try.prog) (c := cU64) (L := ys) (size := 1) 0 (((l.getD k d3).at_).toNat) 0 [.int .u64 ((l.getD k d3).new)] ((l.getD k d3).new : Int) rfl rfl rfl (by kernel_rfl) f_115 p_82 (by omega) (fun _ => rfl) rfl (K.one_cells (by rfl)) rfl rfl ?_) 
            intro w_118 e_119 hs_120 o_121
            have c_123 := c_113.own e_119 (by omega)
            have z_124 := c_123.size
            have f_125 := f_116.chg e_119 (fun hk => f_115.ne_ty f_116 (by decide) _ ⟨_, rfl, rfl⟩ hk.symm)
            have ln_122 : ((ys.set (((l.getD k d3).at_).toNat) ((l.getD k d3).new : Int))).length = xs.length := by rw [List.length_set]; exact p_82
            refine K.RW.nil ?_
            refine K.blk_normal ?_
            refine K.thn_normal ?_
            -- region 12 diff.go:49
            refine K.KW.region ?_
            refine K.RW.q rfl rfl (K.QR.n64 ((((k : Nat) : Int) : Int) + (1 : Int)) ((k + 1 : Nat) : Int) (by kernel_rfl) (by omega)) ?_
            refine K.RW.q rfl rfl (K.QR.k (v := .int .i64 ((k + 1 : Nat) : Int)) (by kernel_rfl)) ?_
            refine K.RW.nil ?_
            refine K.thn_normal ?_
            refine ⟨_, ?_, k + 1, (ys.set (((l.getD k d3).at_).toNat) ((l.getD k d3).new : Int)), _, c1, rfl, ⟨by rfl, by rfl, by rfl, by rfl, by rfl, by rfl, trivial⟩, (by omega), (ln_122), (applyTo_succ (by assumption) (by assumption)), c_123, o_121⟩
            omega
          ·  -- no
            refine K.DW.q 7 (by kernel_rfl) rfl rfl (by kernel_rfl) rfl (fun w hS => K.QR.nice (v := .bool ((ys.getD (((l.getD k d3).at_).toNat) 0 : Int) != ((l.getD k d3).old : Int))) (by kernel_rfl) (congrArg Value.bool (bne_iff_ne.2 h_117))) hS_112 ?_
            refine K.DW.done (by kernel_rfl) ?_
            refine K.thn_normal ?_
            refine K.KW.ifT rfl ?_
            refine K.KW.seq ?_
            -- region 10 diff.go:51
            refine K.KW.region ?_
            refine K.RW.q rfl rfl (K.QR.k (v := .slice none 0 0) (by kernel_rfl)) ?_
            refine K.RW.q rfl rfl (K.QR.k (v := .int .i64 9) (by kernel_rfl)) ?_
            refine K.RW.nil ?_
            refine K.thn_normal ?_
            refine K.KW.ret ?_
            refine K.thn_ret ?_
            refine K.blk_ret ?_
            refine K.thn_ret ?_
            refine K.thn_ret ?_
            refine K.blk_ret ?_
            refine K.thn_ret ?_
            refine ⟨.inr rfl, (.tuple #[.slice none 0 0, .int .i64 9]), K.res2 rfl rfl rfl, ?_⟩
            rw [apply_9 (k := k) (by assumption) (by omega) (by omega) (by assumption) (by assumption)]
            exact ⟨_, _, _, rfl, c_113, K.Own.nil _ _ _ _, rfl⟩
        ·  -- no
          refine K.RW.q rfl rfl (K.QR.nice (v := .bool (decide ((((k : Nat) : Int) : Int) < (((l.length : Nat) : Int) : Int)))) (by kernel_rfl) (congrArg Value.bool (decide_eq_false h_86))) ?_
          refine K.RW.nil ?_
          refine K.thn_normal ?_
          refine K.KW.seq ?_
          refine K.KW.ifF rfl ?_
          refine K.KW.exit ?_
          refine K.thn_exit ?_
          refine K.thn_exit ?_
          refine K.blk_hit ?_
          refine K.thn_normal ?_
          refine K.KW.seq ?_
          -- region 13 diff.go:55
          refine K.KW.region ?_
          refine K.RW.q rfl rfl (K.QR.k (v := .slice r xs.length c1) (by kernel_rfl)) ?_
          refine K.RW.q rfl rfl (K.QR.k (v := .slice r xs.length c1) (by kernel_rfl)) ?_
          refine K.RW.q rfl rfl (K.QR.k (v := .int .i64 0) (by kernel_rfl)) ?_
          refine K.RW.nil ?_
          refine K.thn_normal ?_
          refine K.KW.ret ?_
          refine ⟨.inr rfl, (.tuple #[.slice r xs.length c1, .int .i64 0]), K.res2 rfl rfl rfl, ?_⟩
          obtain rfl : k = l.length := by omega
          rw [apply_0 (by assumption) (by omega) (by assumption)]
          exact ⟨_, _, _, rfl, c_80, f_84, by assumption⟩
  ·  -- False
    rw [hb_7] at hv_3; subst hv_3
    refine K.RW.q rfl rfl (K.QR.k (v := .bool true) (by kernel_rfl)) ?_
    refine K.RW.q rfl rfl (K.QR.k (v := .bool true) (by kernel_rfl)) ?_
    refine K.RW.nil ?_
    refine K.thn_normal ?_
    refine K.KW.ifT rfl ?_
    refine K.KW.seq ?_
    -- region 2 diff.go:44
    refine K.KW.region ?_
    refine K.RW.q rfl rfl (K.QR.k (v := .slice none 0 0) (by kernel_rfl)) ?_
    refine K.RW.q rfl rfl (K.QR.k (v := .int .i64 3) (by kernel_rfl)) ?_
    refine K.RW.nil ?_
    refine K.thn_normal ?_
    refine K.KW.ret ?_
    refine K.blk_ret ?_
    refine K.thn_ret ?_
    refine ⟨.inr rfl, (.tuple #[.slice none 0 0, .int .i64 3]), K.res2 rfl rfl rfl, ?_⟩
    rw [apply_3 (by assumption)]
    exact ⟨_, _, _, rfl, c_5, K.Own.nil _ _ _ _, rfl⟩

set_option maxHeartbeats 1000000 in
set_option maxRecDepth 100000 in
theorem awake34_ok (w0 : World) :
    K.KC Try.prog 24 #[] w0 (fun v w' => v = .bool true ∧ K.Chg K.No w0 w') := by
  refine K.KC.mk (n := 46) Try.func24 rfl rfl [] rfl rfl ?_
  refine K.KW.seq ?_
  -- region 0 law.go:12
  refine K.KW.region ?_
  refine K.RW.q rfl rfl (K.QR.k (v := .bool false) (by kernel_rfl)) ?_
  refine K.RW.nil ?_
  refine K.thn_normal ?_
  refine K.KW.seq ?_
  -- region 1 law.go:13
  refine K.KW.region ?_
  refine K.RW.l rfl (K.OW.bs rfl [(0, .int .u64 1), (1, .int .u64 2)] [.int .u64 1, .int .u64 2] rfl rfl (fun w => K.bs_run (P := Try.prog) w 32 22 2 _ _ Try.underlying32 (by kernel_rfl)) ?_) 
  intro w_1 r_2 hr_3 e_4 hs_5 b_6
  have c_7 := e_4
  have z_8 := c_7.size
  refine K.RW.l rfl (K.OW.bs rfl [(0, .int .u64 1), (1, .int .u64 5)] [.int .u64 1, .int .u64 5] rfl rfl (fun w => K.bs_run (P := Try.prog) w 32 22 2 _ _ Try.underlying32 (by kernel_rfl)) ?_) 
  intro w_9 r_10 hr_11 e_12 hs_13 b_14
  have c_15 := c_7.no e_12
  have z_16 := c_15.size
  have f_17 := b_6.no e_12
  refine K.RW.l rfl (K.OW.call rfl [.slice (some ⟨r_2, 0, none⟩) 2 2, .slice (some ⟨r_10, 0, none⟩) 2 2] rfl rfl (by kernel_rfl) (between_ok _ _ _ _ [(1 : Int), (2 : Int)] [(1 : Int), (5 : Int)] _ (by first | omega | (simp; omega) | (simp; done)) (by first | omega | (simp; omega) | (simp; done)) (K.Blk.rowE (c := cU64) 0 (L := [(1 : Int), (2 : Int)]) f_17 (fun _ => rfl) rfl) (K.Blk.rowE (c := cU64) 0 (L := [(1 : Int), (5 : Int)]) b_14 (fun _ => rfl) rfl)) ?_) 
  rintro v_26 w_24 ⟨r_18, m_19, cc_20, hv_25, c_21, o_22, l_23⟩
  have e_27 : (betweenR [(1 : Int), (2 : Int)] [(1 : Int), (5 : Int)]) = ((0 : Int), [(⟨1, 2, 5⟩ : Chg3)]) := by decide
  simp only [e_27] at hv_25 o_22 l_23
  obtain rfl : 1 = m_19 := l_23
  subst hv_25
  have c_28 := c_15.no c_21
  have z_29 := c_28.size
  have f_30 := f_17.no c_21
  have f_31 := b_14.no c_21
  have o_32 := K.Own.mono (base' := w0.heap.size) o_22 (by omega)
  refine K.RW.q rfl rfl (K.QR.k (v := .tuple #[.slice r_18 1 cc_20, .int .i64 0]) (by kernel_rfl)) ?_
  refine K.RW.q rfl rfl (K.QR.k (v := .slice r_18 1 cc_20) (by kernel_rfl)) ?_
  refine K.RW.q rfl rfl (K.QR.k (v := .int .i64 0) (by kernel_rfl)) ?_
  refine K.RW.q rfl rfl (K.QR.k (v := .slice r_18 1 cc_20) (by kernel_rfl)) ?_
  refine K.RW.q rfl rfl (K.QR.k (v := .int .i64 0) (by kernel_rfl)) ?_
  refine K.RW.nil ?_
  refine K.thn_normal ?_
  refine K.KW.seq ?_
  -- region 2 law.go:14
  refine K.KW.region ?_
  refine K.RW.l rfl (K.OW.bs rfl [(0, .int .u64 1), (1, .int .u64 2)] [.int .u64 1, .int .u64 2] rfl rfl (fun w => K.bs_run (P := Try.prog) w 32 22 2 _ _ Try.underlying32 (by kernel_rfl)) ?_) 
  intro w_33 r_34 hr_35 e_36 hs_37 b_38
  have c_39 := c_28.no e_36
  have z_40 := c_39.size
  have f_41 := f_30.no e_36
  have f_42 := f_31.no e_36
  have f_43 := o_32.no e_36
  refine K.RW.q rfl rfl (K.QR.k (v := .slice r_18 1 cc_20) (by kernel_rfl)) ?_
  refine K.RW.l rfl (K.OW.call rfl [.slice (some ⟨r_34, 0, none⟩) 2 2, .slice r_18 1 cc_20] rfl rfl (by kernel_rfl) (apply_ok _ _ _ _ [(1 : Int), (2 : Int)] [(⟨1, 2, 5⟩ : Chg3)] _ (by first | omega | (simp; omega) | (simp; done)) (by first | omega | (simp; omega) | (simp; done)) (K.Blk.rowE (c := cU64) 0 (L := [(1 : Int), (2 : Int)]) b_38 (fun _ => rfl) rfl) (K.Own.rowE d3 f_43 rfl (fun _ => rfl))) ?_) 
  rintro v_52 w_50 ⟨r_44, m_45, cc_46, hv_51, c_47, o_48, l_49⟩
  have e_53 : (apply [(1 : Int), (2 : Int)] [(⟨1, 2, 5⟩ : Chg3)]) = ((0 : Int), [(1 : Int), (5 : Int)]) := by decide
  simp only [e_53] at hv_51 o_48 l_49
  obtain rfl : 2 = m_45 := l_49
  subst hv_51
  have c_54 := c_39.no c_47
  have z_55 := c_54.size
  have f_56 := f_41.no c_47
  have f_57 := f_42.no c_47
  have f_58 := f_43.no c_47
  have f_59 := b_38.no c_47
  have o_60 := K.Own.mono (base' := w0.heap.size) o_48 (by omega)
  refine K.RW.q rfl rfl (K.QR.k (v := .tuple #[.slice r_44 2 cc_46, .int .i64 0]) (by kernel_rfl)) ?_
  refine K.RW.q rfl rfl (K.QR.k (v := .slice r_44 2 cc_46) (by kernel_rfl)) ?_
  refine K.RW.q rfl rfl (K.QR.k (v := .int .i64 0) (by kernel_rfl)) ?_
  refine K.RW.q rfl rfl (K.QR.k (v := .slice r_44 2 cc_46) (by kernel_rfl)) ?_
  refine K.RW.q rfl rfl (K.QR.k (v := .int .i64 0) (by kernel_rfl)) ?_
  refine K.RW.nil ?_
  refine K.thn_normal ?_
  refine K.KW.seq ?_
  -- region 3 law.go:15
  refine K.KW.region ?_
  refine K.RW.q rfl rfl (K.QR.k (v := .int .i64 0) (by kernel_rfl)) ?_
  refine K.RW.q rfl rfl (K.QR.k (v := .bool true) (by kernel_rfl)) ?_
  refine K.RW.q rfl rfl (K.QR.k (v := .bool true) (by kernel_rfl)) ?_
  refine K.RW.q rfl (by kernel_rfl) (K.QR.k (v := .slice r_18 1 cc_20) (by kernel_rfl)) ?_
  refine K.RW.q rfl (by kernel_rfl) (K.QR.len (P := Try.prog) rfl rfl Try.underlying42) ?_
  refine K.RW.q rfl (by kernel_rfl) (K.QR.k (v := .bool true) (by kernel_rfl)) ?_
  refine K.RW.q rfl rfl (K.QR.k (v := .bool true) (by kernel_rfl)) ?_
  refine K.RW.q rfl rfl (K.QR.k (v := .bool true) (by kernel_rfl)) ?_
  refine K.RW.q rfl (by kernel_rfl) (K.QR.k (v := .slice r_18 1 cc_20) (by kernel_rfl)) ?_
  obtain ⟨b_61, rfl, gb_63, gl_64⟩ := f_58.some_ (by omega)
  refine K.RW.q rfl (by kernel_rfl) (K.QR.ix (0 + 0 * 3) 3 rfl rfl rfl Try.underlying42 (by kernel_rfl) (by omega) (by simp)) ?_
  refine K.RW.q rfl (by kernel_rfl) (K.QR.ldN [.int .i64 (([(⟨1, 2, 5⟩ : Chg3)].getD 0 d3).at_), .int .u64 (([(⟨1, 2, 5⟩ : Chg3)].getD 0 d3).old), .int .u64 (([(⟨1, 2, 5⟩ : Chg3)].getD 0 d3).new)] rfl rfl (by kernel_rfl) (by kernel_rfl) (K.cells (K.cl ((K.Own.rowE d3 f_58 rfl (fun _ => rfl)).ld 0 (by omega) 0 _ rfl) (K.cl ((K.Own.rowE d3 f_58 rfl (fun _ => rfl)).ld 0 (by omega) 1 _ rfl) (K.cl ((K.Own.rowE d3 f_58 rfl (fun _ => rfl)).ld 0 (by omega) 2 _ rfl) K.cl0))))) ?_
  refine K.RW.q rfl (by kernel_rfl) (K.QR.bd [(0, .int .i64 1), (1, .int .u64 2), (2, .int .u64 5)] [.int .i64 1, .int .u64 2, .int .u64 5] rfl rfl (by kernel_rfl)) ?_
  refine K.RW.q rfl (by kernel_rfl) (K.QR.eqS (by kernel_rfl) rfl rfl rfl (eqC_t (by decide))) ?_
  refine K.RW.q rfl rfl (K.QR.k (v := .bool true) (by kernel_rfl)) ?_
  refine K.RW.q rfl rfl (K.QR.k (v := .bool true) (by kernel_rfl)) ?_
  refine K.RW.q rfl (by kernel_rfl) (K.QR.k (v := .int .i64 0) (by kernel_rfl)) ?_
  refine K.RW.q rfl (by kernel_rfl) (K.QR.k (v := .bool true) (by kernel_rfl)) ?_
  refine K.RW.q rfl rfl (K.QR.k (v := .bool true) (by kernel_rfl)) ?_
  refine K.RW.q rfl rfl (K.QR.k (v := .bool true) (by kernel_rfl)) ?_
  refine K.RW.q rfl (by kernel_rfl) (K.QR.k (v := .slice r_44 2 cc_46) (by kernel_rfl)) ?_
  refine K.RW.q rfl (by kernel_rfl) (K.QR.len (P := Try.prog) rfl rfl Try.underlying32) ?_
  refine K.RW.q rfl (by kernel_rfl) (K.QR.k (v := .bool true) (by kernel_rfl)) ?_
  refine K.RW.q rfl rfl (K.QR.k (v := .bool true) (by kernel_rfl)) ?_
  refine K.RW.q rfl rfl (K.QR.k (v := .bool true) (by kernel_rfl)) ?_
  refine K.RW.q rfl (by kernel_rfl) (K.QR.k (v := .slice r_44 2 cc_46) (by kernel_rfl)) ?_
  obtain ⟨b_65, rfl, gb_67, gl_68⟩ := o_60.some_ (by omega)
  refine K.RW.q rfl (by kernel_rfl) (K.QR.ix (0 + 1 * 1) 1 rfl rfl rfl Try.underlying32 (by kernel_rfl) (by omega) (by simp)) ?_
  refine K.RW.q rfl (by kernel_rfl) (K.QR.ld1 (v := .int .u64 ([(1 : Int), (5 : Int)].getD 1 0)) rfl rfl (by kernel_rfl) ((K.Own.rowE 0 o_60 rfl (fun _ => rfl)).ld 1 (by omega) 0 _ rfl)) ?_
  refine K.RW.q rfl (by kernel_rfl) (K.QR.nice (v := .bool (([(1 : Int), (5 : Int)].getD 1 0 : Int) == (5 : Int))) (by kernel_rfl) (congrArg Value.bool (beq_iff_eq.2 (by decide)))) ?_
  refine K.RW.q rfl rfl (K.QR.k (v := .bool true) (by kernel_rfl)) ?_
  refine K.RW.q rfl rfl (K.QR.k (v := .bool true) (by kernel_rfl)) ?_
  refine K.RW.nil ?_
  refine K.thn_normal ?_
  refine K.KW.ret ?_
  refine ⟨.inr rfl, (.bool true), K.res1 rfl rfl, ?_⟩
  exact ⟨rfl, c_54⟩

end Go.Proofs.Ytcmlompigmhddaa
