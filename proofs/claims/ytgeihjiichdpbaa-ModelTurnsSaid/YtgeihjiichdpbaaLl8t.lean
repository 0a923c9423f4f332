/- The statement ModelTurns. -/
import Derived.Test.YtgeihjiichdpbaaFmt
namespace Go.Proofs.Ytgeihjiichdpbaa
open Go.RowKit
set_option linter.unusedVariables false
attribute [local irreducible] K.KW K.RW K.DW K.OW K.QR K.KC

set_option maxHeartbeats 1000000 in
set_option maxRecDepth 100000 in
theorem apart_ok (w0 : World) (ka ya va kb yb vb : Int) :
    K.GC Try.prog w0 31 #[.agg #[.int .i64 ka, .int .u32 ya, .int .u32 va], .agg #[.int .i64 kb, .int .u32 yb, .int .u32 vb]] [] (fun v post => v = .bool (decide (apartP ka ya kb yb)) ∧ post = []) := by
  refine K.GC.mk (n := 61) Try.func31 rfl rfl [.agg #[.int .i64 ka, .int .u32 ya, .int .u32 va], .agg #[.int .i64 kb, .int .u32 yb, .int .u32 vb]] rfl rfl ?_
  intro fr w hS
  replace hS : K.Sat w0 [fr] w := hS
  refine K.KW.seq ?_
  -- 0 :90
  refine K.KW.region ?_
  refine K.RW.l rfl (K.OW.gnew 45 [.int .i64 ka, .int .u32 ya, .int .u32 va] hS ?_)
  clear hS; intro w r_1 g_2 hg_3 hS
  refine K.RW.l rfl (K.OW.gnew 45 [.int .i64 kb, .int .u32 yb, .int .u32 vb] hS ?_)
  clear hS; intro w r_4 g_5 hg_6 hS
  refine K.RW.qs [.bool false] (by kernel_rfl) ?_
  refine K.RW.nil ?_
  refine K.thn_normal ?_
  refine K.KW.seq ?_
  -- 1 :91
  refine K.KW.region ?_
  refine K.RW.l rfl (K.OW.gbs [(0, .int .i64 0), (1, .int .i64 1), (2, .int .i64 1), (3, .int .i64 2), (4, .int .i64 2), (5, .int .i64 2), (6, .int .i64 3), (7, .int .i64 3), (8, .int .i64 3)] [.int .i64 0, .int .i64 1, .int .i64 1, .int .i64 2, .int .i64 2, .int .i64 2, .int .i64 3, .int .i64 3, .int .i64 3] hS (fun w => K.bs_run (P := Try.prog) w 73 3 9 _ _ Try.underlying73 (by kernel_rfl)) ?_)
  clear hS; intro w r_7 g_8 hg_9 hS
  refine K.RW.qs [.slice (some ⟨r_7, 0, none⟩) 9 9] (by kernel_rfl) ?_
  refine K.RW.nil ?_
  refine K.thn_normal ?_
  refine K.KW.seq ?_
  refine K.KW.seq ?_
  -- 2 :92
  have o_10 : K.OwnG g_8 3 1 (some ⟨r_7, 0, none⟩) 9 9 ((([0, 1, 1, 2, 2, 2, 3, 3, 3] : List Int)).flatMap cI64) := K.OwnG.ofPt hg_9 9 (by unfold maxLen; omega) rfl
  refine K.KW.gdrawn [0, 2] hS (by kernel_rfl) ?_
  clear hS; intro w hS
  refine K.DW.l 0 rfl (by kernel_rfl) rfl (K.OW.q rfl (K.QR.k (v := .pointer (some ⟨r_1, 0, none⟩)) (by kernel_rfl)) ?_)
  refine ⟨.inl (hS.pick [0, 2]), ?_⟩
  refine K.DW.l 1 rfl (by kernel_rfl) rfl (K.OW.q rfl (K.QR.ld1 (v := .int .i64 ka) rfl rfl (by kernel_rfl) ((hS.blk 2 rfl hg_3).cell rfl)) ?_)
  refine ⟨.inl (hS.pick [0, 2]), ?_⟩
  by_cases h_11 : (ka : Int) < (1 : Int)
  ·  -- yes
    refine K.DW.l 2 rfl (by kernel_rfl) rfl (K.OW.q rfl (K.QR.nice (v := .bool (decide ((ka : Int) < (1 : Int)))) (by kernel_rfl) (congrArg Value.bool (decide_eq_true h_11))) ?_)
    refine ⟨.inl (hS.pick [0, 2]), ?_⟩
    refine K.DW.l 3 rfl (by kernel_rfl) rfl (K.OW.q rfl (K.QR.k (v := .bool true) (by kernel_rfl)) ?_)
    refine ⟨.inl (hS.pick [0, 2]), ?_⟩
    refine K.DW.skip 4 (by kernel_rfl) rfl rfl (by kernel_rfl) (by kernel_rfl) (hS.pick [0, 2]) ?_
    refine K.DW.skip 5 (by kernel_rfl) rfl rfl (by kernel_rfl) (by kernel_rfl) (hS.pick [0, 2]) ?_
    refine K.DW.skip 6 (by kernel_rfl) rfl rfl (by kernel_rfl) (by kernel_rfl) (hS.pick [0, 2]) ?_
    refine K.DW.l 7 rfl (by kernel_rfl) rfl (K.OW.q rfl (K.QR.k (v := .bool true) (by kernel_rfl)) ?_)
    refine ⟨.inl (hS.pick [0, 2]), ?_⟩
    refine K.DW.l 8 rfl (by kernel_rfl) rfl (K.OW.q rfl (K.QR.k (v := .bool true) (by kernel_rfl)) ?_)
    refine ⟨.inl (hS.pick [0, 2]), ?_⟩
    refine K.DW.skip 9 (by kernel_rfl) rfl rfl (by kernel_rfl) (by kernel_rfl) (hS.pick [0, 2]) ?_
    refine K.DW.skip 10 (by kernel_rfl) rfl rfl (by kernel_rfl) (by kernel_rfl) (hS.pick [0, 2]) ?_
    refine K.DW.skip 11 (by kernel_rfl) rfl rfl (by kernel_rfl) (by kernel_rfl) (hS.pick [0, 2]) ?_
    refine K.DW.l 12 rfl (by kernel_rfl) rfl (K.OW.q rfl (K.QR.k (v := .bool true) (by kernel_rfl)) ?_)
    refine ⟨.inl (hS.pick [0, 2]), ?_⟩
    refine K.DW.l 13 rfl (by kernel_rfl) rfl (K.OW.q rfl (K.QR.k (v := .bool true) (by kernel_rfl)) ?_)
    refine ⟨.inl (hS.pick [0, 2]), ?_⟩
    refine K.DW.skip 14 (by kernel_rfl) rfl rfl (by kernel_rfl) (by kernel_rfl) (hS.pick [0, 2]) ?_
    refine K.DW.skip 15 (by kernel_rfl) rfl rfl (by kernel_rfl) (by kernel_rfl) (hS.pick [0, 2]) ?_
    refine K.DW.skip 16 (by kernel_rfl) rfl rfl (by kernel_rfl) (by kernel_rfl) (hS.pick [0, 2]) ?_
    refine K.DW.l 17 rfl (by kernel_rfl) rfl (K.OW.q rfl (K.QR.k (v := .bool true) (by kernel_rfl)) ?_)
    refine ⟨.inl (hS.pick [0, 2]), ?_⟩
    refine K.DW.l 18 rfl (by kernel_rfl) rfl (K.OW.q rfl (K.QR.k (v := .bool true) (by kernel_rfl)) ?_)
    refine ⟨.inl (hS.pick [0, 2]), ?_⟩
    refine K.DW.skip 19 (by kernel_rfl) rfl rfl (by kernel_rfl) (by kernel_rfl) (hS.pick [0, 2]) ?_
    refine K.DW.skip 20 (by kernel_rfl) rfl rfl (by kernel_rfl) (by kernel_rfl) (hS.pick [0, 2]) ?_
    refine K.DW.skip 21 (by kernel_rfl) rfl rfl (by kernel_rfl) (by kernel_rfl) (hS.pick [0, 2]) ?_
    refine K.DW.skip 22 (by kernel_rfl) rfl rfl (by kernel_rfl) (by kernel_rfl) (hS.pick [0, 2]) ?_
    refine K.DW.skip 23 (by kernel_rfl) rfl rfl (by kernel_rfl) (by kernel_rfl) (hS.pick [0, 2]) ?_
    refine K.DW.skip 24 (by kernel_rfl) rfl rfl (by kernel_rfl) (by kernel_rfl) (hS.pick [0, 2]) ?_
    refine K.DW.skip 25 (by kernel_rfl) rfl rfl (by kernel_rfl) (by kernel_rfl) (hS.pick [0, 2]) ?_
    refine K.DW.skip 26 (by kernel_rfl) rfl rfl (by kernel_rfl) (by kernel_rfl) (hS.pick [0, 2]) ?_
    refine K.DW.skip 27 (by kernel_rfl) rfl rfl (by kernel_rfl) (by kernel_rfl) (hS.pick [0, 2]) ?_
    refine K.DW.skip 28 (by kernel_rfl) rfl rfl (by kernel_rfl) (by kernel_rfl) (hS.pick [0, 2]) ?_
    refine K.DW.skip 29 (by kernel_rfl) rfl rfl (by kernel_rfl) (by kernel_rfl) (hS.pick [0, 2]) ?_
    refine K.DW.l 30 rfl (by kernel_rfl) rfl (K.OW.q rfl (K.QR.k (v := .bool true) (by kernel_rfl)) ?_)
    refine ⟨.inl (hS.pick [0, 2]), ?_⟩
    refine K.DW.done (by kernel_rfl) ?_
    refine K.thn_normal ?_
    refine K.KW.ifT rfl ?_
    refine K.KW.seq ?_
    -- 3 :93
    refine K.KW.region ?_
    refine K.RW.qs [.bool true] (by kernel_rfl) ?_
    refine K.RW.nil ?_
    refine K.thn_normal ?_
    refine K.KW.ret ?_
    refine K.thn_ret ?_
    have pa := fun h => part_get (k := ka) h
    have pb := fun h => part_get (k := kb) h
    refine ⟨.inr rfl, rfl, (.bool true), K.res1 rfl rfl, [], ?_, hS.pick [3]⟩
    exact ⟨congrArg Value.bool (decide_eq_true (by unfold apartP; by_cases ia : 1 ≤ ka ∧ ka ≤ 8 <;> by_cases ib : 1 ≤ kb ∧ kb ≤ 8 <;> first | omega | (rw [← pa ia, ← pb ib]; omega))).symm, rfl⟩
  ·  -- no
    refine K.DW.l 2 rfl (by kernel_rfl) rfl (K.OW.q rfl (K.QR.nice (v := .bool (decide ((ka : Int) < (1 : Int)))) (by kernel_rfl) (congrArg Value.bool (decide_eq_false h_11))) ?_)
    refine ⟨.inl (hS.pick [0, 2]), ?_⟩
    refine K.DW.l 3 rfl (by kernel_rfl) rfl (K.OW.q rfl (K.QR.k (v := .bool false) (by kernel_rfl)) ?_)
    refine ⟨.inl (hS.pick [0, 2]), ?_⟩
    refine K.DW.l 4 rfl (by kernel_rfl) (by kernel_rfl) (K.OW.q rfl (K.QR.k (v := .pointer (some ⟨r_1, 0, none⟩)) (by kernel_rfl)) ?_)
    refine ⟨.inl (hS.pick [0, 2]), ?_⟩
    refine K.DW.l 5 rfl (by kernel_rfl) (by kernel_rfl) (K.OW.q rfl (K.QR.ld1 (v := .int .i64 ka) rfl rfl (by kernel_rfl) ((hS.blk 2 rfl hg_3).cell rfl)) ?_)
    refine ⟨.inl (hS.pick [0, 2]), ?_⟩
    by_cases h_12 : (ka : Int) > (8 : Int)
    ·  -- yes
      refine K.DW.l 6 rfl (by kernel_rfl) (by kernel_rfl) (K.OW.q rfl (K.QR.nice (v := .bool (decide ((ka : Int) > (8 : Int)))) (by kernel_rfl) (congrArg Value.bool (decide_eq_true h_12))) ?_)
      refine ⟨.inl (hS.pick [0, 2]), ?_⟩
      refine K.DW.l 7 rfl (by kernel_rfl) rfl (K.OW.q rfl (K.QR.k (v := .bool true) (by kernel_rfl)) ?_)
      refine ⟨.inl (hS.pick [0, 2]), ?_⟩
      refine K.DW.l 8 rfl (by kernel_rfl) rfl (K.OW.q rfl (K.QR.k (v := .bool true) (by kernel_rfl)) ?_)
      refine ⟨.inl (hS.pick [0, 2]), ?_⟩
      refine K.DW.skip 9 (by kernel_rfl) rfl rfl (by kernel_rfl) (by kernel_rfl) (hS.pick [0, 2]) ?_
      refine K.DW.skip 10 (by kernel_rfl) rfl rfl (by kernel_rfl) (by kernel_rfl) (hS.pick [0, 2]) ?_
      refine K.DW.skip 11 (by kernel_rfl) rfl rfl (by kernel_rfl) (by kernel_rfl) (hS.pick [0, 2]) ?_
      refine K.DW.l 12 rfl (by kernel_rfl) rfl (K.OW.q rfl (K.QR.k (v := .bool true) (by kernel_rfl)) ?_)
      refine ⟨.inl (hS.pick [0, 2]), ?_⟩
      refine K.DW.l 13 rfl (by kernel_rfl) rfl (K.OW.q rfl (K.QR.k (v := .bool true) (by kernel_rfl)) ?_)
      refine ⟨.inl (hS.pick [0, 2]), ?_⟩
      refine K.DW.skip 14 (by kernel_rfl) rfl rfl (by kernel_rfl) (by kernel_rfl) (hS.pick [0, 2]) ?_
      refine K.DW.skip 15 (by kernel_rfl) rfl rfl (by kernel_rfl) (by kernel_rfl) (hS.pick [0, 2]) ?_
      refine K.DW.skip 16 (by kernel_rfl) rfl rfl (by kernel_rfl) (by kernel_rfl) (hS.pick [0, 2]) ?_
      refine K.DW.l 17 rfl (by kernel_rfl) rfl (K.OW.q rfl (K.QR.k (v := .bool true) (by kernel_rfl)) ?_)
      refine ⟨.inl (hS.pick [0, 2]), ?_⟩
      refine K.DW.l 18 rfl (by kernel_rfl) rfl (K.OW.q rfl (K.QR.k (v := .bool true) (by kernel_rfl)) ?_)
      refine ⟨.inl (hS.pick [0, 2]), ?_⟩
      refine K.DW.skip 19 (by kernel_rfl) rfl rfl (by kernel_rfl) (by kernel_rfl) (hS.pick [0, 2]) ?_
      refine K.DW.skip 20 (by kernel_rfl) rfl rfl (by kernel_rfl) (by kernel_rfl) (hS.pick [0, 2]) ?_
      refine K.DW.skip 21 (by kernel_rfl) rfl rfl (by kernel_rfl) (by kernel_rfl) (hS.pick [0, 2]) ?_
      refine K.DW.skip 22 (by kernel_rfl) rfl rfl (by kernel_rfl) (by kernel_rfl) (hS.pick [0, 2]) ?_
      refine K.DW.skip 23 (by kernel_rfl) rfl rfl (by kernel_rfl) (by kernel_rfl) (hS.pick [0, 2]) ?_
      refine K.DW.skip 24 (by kernel_rfl) rfl rfl (by kernel_rfl) (by kernel_rfl) (hS.pick [0, 2]) ?_
      refine K.DW.skip 25 (by kernel_rfl) rfl rfl (by kernel_rfl) (by kernel_rfl) (hS.pick [0, 2]) ?_
      refine K.DW.skip 26 (by kernel_rfl) rfl rfl (by kernel_rfl) (by kernel_rfl) (hS.pick [0, 2]) ?_
      refine K.DW.skip 27 (by kernel_rfl) rfl rfl (by kernel_rfl) (by kernel_rfl) (hS.pick [0, 2]) ?_
      refine K.DW.skip 28 (by kernel_rfl) rfl rfl (by kernel_rfl) (by kernel_rfl) (hS.pick [0, 2]) ?_
      refine K.DW.skip 29 (by kernel_rfl) rfl rfl (by kernel_rfl) (by kernel_rfl) (hS.pick [0, 2]) ?_
      refine K.DW.l 30 rfl (by kernel_rfl) rfl (K.OW.q rfl (K.QR.k (v := .bool true) (by kernel_rfl)) ?_)
      refine ⟨.inl (hS.pick [0, 2]), ?_⟩
      refine K.DW.done (by kernel_rfl) ?_
      refine K.thn_normal ?_
      refine K.KW.ifT rfl ?_
      refine K.KW.seq ?_
      -- 3 :93
      refine K.KW.region ?_
      refine K.RW.qs [.bool true] (by kernel_rfl) ?_
      refine K.RW.nil ?_
      refine K.thn_normal ?_
      refine K.KW.ret ?_
      refine K.thn_ret ?_
      have pa := fun h => part_get (k := ka) h
      have pb := fun h => part_get (k := kb) h
      refine ⟨.inr rfl, rfl, (.bool true), K.res1 rfl rfl, [], ?_, hS.pick [3]⟩
      exact ⟨congrArg Value.bool (decide_eq_true (by unfold apartP; by_cases ia : 1 ≤ ka ∧ ka ≤ 8 <;> by_cases ib : 1 ≤ kb ∧ kb ≤ 8 <;> first | omega | (rw [← pa ia, ← pb ib]; omega))).symm, rfl⟩
    ·  -- no
      refine K.DW.l 6 rfl (by kernel_rfl) (by kernel_rfl) (K.OW.q rfl (K.QR.nice (v := .bool (decide ((ka : Int) > (8 : Int)))) (by kernel_rfl) (congrArg Value.bool (decide_eq_false h_12))) ?_)
      refine ⟨.inl (hS.pick [0, 2]), ?_⟩
      refine K.DW.l 7 rfl (by kernel_rfl) rfl (K.OW.q rfl (K.QR.k (v := .bool false) (by kernel_rfl)) ?_)
      refine ⟨.inl (hS.pick [0, 2]), ?_⟩
      refine K.DW.l 8 rfl (by kernel_rfl) rfl (K.OW.q rfl (K.QR.k (v := .bool false) (by kernel_rfl)) ?_)
      refine ⟨.inl (hS.pick [0, 2]), ?_⟩
      refine K.DW.l 9 rfl (by kernel_rfl) (by kernel_rfl) (K.OW.q rfl (K.QR.k (v := .pointer (some ⟨r_4, 0, none⟩)) (by kernel_rfl)) ?_)
      refine ⟨.inl (hS.pick [0, 2]), ?_⟩
      refine K.DW.l 10 rfl (by kernel_rfl) (by kernel_rfl) (K.OW.q rfl (K.QR.ld1 (v := .int .i64 kb) rfl rfl (by kernel_rfl) ((hS.blk 1 rfl hg_6).cell rfl)) ?_)
      refine ⟨.inl (hS.pick [0, 2]), ?_⟩
      by_cases h_13 : (kb : Int) < (1 : Int)
      ·  -- yes
        refine K.DW.l 11 rfl (by kernel_rfl) (by kernel_rfl) (K.OW.q rfl (K.QR.nice (v := .bool (decide ((kb : Int) < (1 : Int)))) (by kernel_rfl) (congrArg Value.bool (decide_eq_true h_13))) ?_)
        refine ⟨.inl (hS.pick [0, 2]), ?_⟩
        refine K.DW.l 12 rfl (by kernel_rfl) rfl (K.OW.q rfl (K.QR.k (v := .bool true) (by kernel_rfl)) ?_)
        refine ⟨.inl (hS.pick [0, 2]), ?_⟩
        refine K.DW.l 13 rfl (by kernel_rfl) rfl (K.OW.q rfl (K.QR.k (v := .bool true) (by kernel_rfl)) ?_)
        refine ⟨.inl (hS.pick [0, 2]), ?_⟩
        refine K.DW.skip 14 (by kernel_rfl) rfl rfl (by kernel_rfl) (by kernel_rfl) (hS.pick [0, 2]) ?_
        refine K.DW.skip 15 (by kernel_rfl) rfl rfl (by kernel_rfl) (by kernel_rfl) (hS.pick [0, 2]) ?_
        refine K.DW.skip 16 (by kernel_rfl) rfl rfl (by kernel_rfl) (by kernel_rfl) (hS.pick [0, 2]) ?_
        refine K.DW.l 17 rfl (by kernel_rfl) rfl (K.OW.q rfl (K.QR.k (v := .bool true) (by kernel_rfl)) ?_)
        refine ⟨.inl (hS.pick [0, 2]), ?_⟩
        refine K.DW.l 18 rfl (by kernel_rfl) rfl (K.OW.q rfl (K.QR.k (v := .bool true) (by kernel_rfl)) ?_)
        refine ⟨.inl (hS.pick [0, 2]), ?_⟩
        refine K.DW.skip 19 (by kernel_rfl) rfl rfl (by kernel_rfl) (by kernel_rfl) (hS.pick [0, 2]) ?_
        refine K.DW.skip 20 (by kernel_rfl) rfl rfl (by kernel_rfl) (by kernel_rfl) (hS.pick [0, 2]) ?_
        refine K.DW.skip 21 (by kernel_rfl) rfl rfl (by kernel_rfl) (by kernel_rfl) (hS.pick [0, 2]) ?_
        refine K.DW.skip 22 (by kernel_rfl) rfl rfl (by kernel_rfl) (by kernel_rfl) (hS.pick [0, 2]) ?_
        refine K.DW.skip 23 (by kernel_rfl) rfl rfl (by kernel_rfl) (by kernel_rfl) (hS.pick [0, 2]) ?_
        refine K.DW.skip 24 (by kernel_rfl) rfl rfl (by kernel_rfl) (by kernel_rfl) (hS.pick [0, 2]) ?_
        refine K.DW.skip 25 (by kernel_rfl) rfl rfl (by kernel_rfl) (by kernel_rfl) (hS.pick [0, 2]) ?_
        refine K.DW.skip 26 (by kernel_rfl) rfl rfl (by kernel_rfl) (by kernel_rfl) (hS.pick [0, 2]) ?_
        refine K.DW.skip 27 (by kernel_rfl) rfl rfl (by kernel_rfl) (by kernel_rfl) (hS.pick [0, 2]) ?_
        refine K.DW.skip 28 (by kernel_rfl) rfl rfl (by kernel_rfl) (by kernel_rfl) (hS.pick [0, 2]) ?_
        refine K.DW.skip 29 (by kernel_rfl) rfl rfl (by kernel_rfl) (by kernel_rfl) (hS.pick [0, 2]) ?_
        refine K.DW.l 30 rfl (by kernel_rfl) rfl (K.OW.q rfl (K.QR.k (v := .bool true) (by kernel_rfl)) ?_)
        refine ⟨.inl (hS.pick [0, 2]), ?_⟩
        refine K.DW.done (by kernel_rfl) ?_
        refine K.thn_normal ?_
        refine K.KW.ifT rfl ?_
        refine K.KW.seq ?_
        -- 3 :93
        refine K.KW.region ?_
        refine K.RW.qs [.bool true] (by kernel_rfl) ?_
        refine K.RW.nil ?_
        refine K.thn_normal ?_
        refine K.KW.ret ?_
        refine K.thn_ret ?_
        have pa := fun h => part_get (k := ka) h
        have pb := fun h => part_get (k := kb) h
        refine ⟨.inr rfl, rfl, (.bool true), K.res1 rfl rfl, [], ?_, hS.pick [3]⟩
        exact ⟨congrArg Value.bool (decide_eq_true (by unfold apartP; by_cases ia : 1 ≤ ka ∧ ka ≤ 8 <;> by_cases ib : 1 ≤ kb ∧ kb ≤ 8 <;> first | omega | (rw [← pa ia, ← pb ib]; omega))).symm, rfl⟩
      ·  -- no
        refine K.DW.l 11 rfl (by kernel_rfl) (by kernel_rfl) (K.OW.q rfl (K.QR.nice (v := .bool (decide ((kb : Int) < (1 : Int)))) (by kernel_rfl) (congrArg Value.bool (decide_eq_false h_13))) ?_)
        refine ⟨.inl (hS.pick [0, 2]), ?_⟩
        refine K.DW.l 12 rfl (by kernel_rfl) rfl (K.OW.q rfl (K.QR.k (v := .bool false) (by kernel_rfl)) ?_)
        refine ⟨.inl (hS.pick [0, 2]), ?_⟩
        refine K.DW.l 13 rfl (by kernel_rfl) rfl (K.OW.q rfl (K.QR.k (v := .bool false) (by kernel_rfl)) ?_)
        refine ⟨.inl (hS.pick [0, 2]), ?_⟩
        refine K.DW.l 14 rfl (by kernel_rfl) (by kernel_rfl) (K.OW.q rfl (K.QR.k (v := .pointer (some ⟨r_4, 0, none⟩)) (by kernel_rfl)) ?_)
        refine ⟨.inl (hS.pick [0, 2]), ?_⟩
        refine K.DW.l 15 rfl (by kernel_rfl) (by kernel_rfl) (K.OW.q rfl (K.QR.ld1 (v := .int .i64 kb) rfl rfl (by kernel_rfl) ((hS.blk 1 rfl hg_6).cell rfl)) ?_)
        refine ⟨.inl (hS.pick [0, 2]), ?_⟩
        by_cases h_14 : (kb : Int) > (8 : Int)
        ·  -- yes
          refine K.DW.l 16 rfl (by kernel_rfl) (by kernel_rfl) (K.OW.q rfl (K.QR.nice (v := .bool (decide ((kb : Int) > (8 : Int)))) (by kernel_rfl) (congrArg Value.bool (decide_eq_true h_14))) ?_)
          refine ⟨.inl (hS.pick [0, 2]), ?_⟩
          refine K.DW.l 17 rfl (by kernel_rfl) rfl (K.OW.q rfl (K.QR.k (v := .bool true) (by kernel_rfl)) ?_)
          refine ⟨.inl (hS.pick [0, 2]), ?_⟩
          refine K.DW.l 18 rfl (by kernel_rfl) rfl (K.OW.q rfl (K.QR.k (v := .bool true) (by kernel_rfl)) ?_)
          refine ⟨.inl (hS.pick [0, 2]), ?_⟩
          refine K.DW.skip 19 (by kernel_rfl) rfl rfl (by kernel_rfl) (by kernel_rfl) (hS.pick [0, 2]) ?_
          refine K.DW.skip 20 (by kernel_rfl) rfl rfl (by kernel_rfl) (by kernel_rfl) (hS.pick [0, 2]) ?_
          refine K.DW.skip 21 (by kernel_rfl) rfl rfl (by kernel_rfl) (by kernel_rfl) (hS.pick [0, 2]) ?_
          refine K.DW.skip 22 (by kernel_rfl) rfl rfl (by kernel_rfl) (by kernel_rfl) (hS.pick [0, 2]) ?_
          refine K.DW.skip 23 (by kernel_rfl) rfl rfl (by kernel_rfl) (by kernel_rfl) (hS.pick [0, 2]) ?_
          refine K.DW.skip 24 (by kernel_rfl) rfl rfl (by kernel_rfl) (by kernel_rfl) (hS.pick [0, 2]) ?_
          refine K.DW.skip 25 (by kernel_rfl) rfl rfl (by kernel_rfl) (by kernel_rfl) (hS.pick [0, 2]) ?_
          refine K.DW.skip 26 (by kernel_rfl) rfl rfl (by kernel_rfl) (by kernel_rfl) (hS.pick [0, 2]) ?_
          refine K.DW.skip 27 (by kernel_rfl) rfl rfl (by kernel_rfl) (by kernel_rfl) (hS.pick [0, 2]) ?_
          refine K.DW.skip 28 (by kernel_rfl) rfl rfl (by kernel_rfl) (by kernel_rfl) (hS.pick [0, 2]) ?_
          refine K.DW.skip 29 (by kernel_rfl) rfl rfl (by kernel_rfl) (by kernel_rfl) (hS.pick [0, 2]) ?_
          refine K.DW.l 30 rfl (by kernel_rfl) rfl (K.OW.q rfl (K.QR.k (v := .bool true) (by kernel_rfl)) ?_)
          refine ⟨.inl (hS.pick [0, 2]), ?_⟩
          refine K.DW.done (by kernel_rfl) ?_
          refine K.thn_normal ?_
          refine K.KW.ifT rfl ?_
          refine K.KW.seq ?_
          -- 3 :93
          refine K.KW.region ?_
          refine K.RW.qs [.bool true] (by kernel_rfl) ?_
          refine K.RW.nil ?_
          refine K.thn_normal ?_
          refine K.KW.ret ?_
          refine K.thn_ret ?_
          have pa := fun h => part_get (k := ka) h
          have pb := fun h => part_get (k := kb) h
          refine ⟨.inr rfl, rfl, (.bool true), K.res1 rfl rfl, [], ?_, hS.pick [3]⟩
          exact ⟨congrArg Value.bool (decide_eq_true (by unfold apartP; by_cases ia : 1 ≤ ka ∧ ka ≤ 8 <;> by_cases ib : 1 ≤ kb ∧ kb ≤ 8 <;> first | omega | (rw [← pa ia, ← pb ib]; omega))).symm, rfl⟩
        ·  -- no
          refine K.DW.l 16 rfl (by kernel_rfl) (by kernel_rfl) (K.OW.q rfl (K.QR.nice (v := .bool (decide ((kb : Int) > (8 : Int)))) (by kernel_rfl) (congrArg Value.bool (decide_eq_false h_14))) ?_)
          refine ⟨.inl (hS.pick [0, 2]), ?_⟩
          refine K.DW.l 17 rfl (by kernel_rfl) rfl (K.OW.q rfl (K.QR.k (v := .bool false) (by kernel_rfl)) ?_)
          refine ⟨.inl (hS.pick [0, 2]), ?_⟩
          refine K.DW.l 18 rfl (by kernel_rfl) rfl (K.OW.q rfl (K.QR.k (v := .bool false) (by kernel_rfl)) ?_)
          refine ⟨.inl (hS.pick [0, 2]), ?_⟩
          refine K.DW.q 19 (by kernel_rfl) rfl rfl (by kernel_rfl) (by kernel_rfl) (fun w hS => K.QR.k (v := .slice (some ⟨r_7, 0, none⟩) 9 9) (by kernel_rfl)) (hS.pick [0, 2]) ?_
          refine K.DW.q 20 (by kernel_rfl) rfl rfl (by kernel_rfl) (by kernel_rfl) (fun w hS => K.QR.k (v := .pointer (some ⟨r_1, 0, none⟩)) (by kernel_rfl)) (hS.pick [0, 2]) ?_
          refine K.DW.q 21 (by kernel_rfl) rfl rfl (by kernel_rfl) (by kernel_rfl) (fun w hS => K.QR.ld1 (v := .int .i64 ka) rfl rfl (by kernel_rfl) ((hS.blk 1 rfl hg_3).cell rfl)) (hS.pick [0, 2]) ?_
          refine K.DW.q 22 (by kernel_rfl) rfl rfl (by kernel_rfl) (by kernel_rfl) (fun w hS => K.QR.ix ka.toNat 1 rfl rfl rfl Try.underlying73 (by kernel_rfl) (by omega) (by first | (simp; done) | omega | (simp; omega))) (hS.pick [0, 2]) ?_
          refine K.DW.q 23 (by kernel_rfl) rfl rfl (by kernel_rfl) (by kernel_rfl) (fun w hS => K.QR.ld1 (v := .int .i64 (([0, 1, 1, 2, 2, 2, 3, 3, 3] : List Int).getD ka.toNat 0)) rfl rfl (by kernel_rfl) (K.Own.atS (c := cI64) (d := 0) (fun _ => rfl) (hS.ownr 0 rfl o_10) rfl ka.toNat (by omega))) (hS.pick [0, 2]) ?_
          refine K.DW.q 24 (by kernel_rfl) rfl rfl (by kernel_rfl) (by kernel_rfl) (fun w hS => K.QR.k (v := .slice (some ⟨r_7, 0, none⟩) 9 9) (by kernel_rfl)) (hS.pick [0, 2]) ?_
          refine K.DW.l 25 rfl (by kernel_rfl) (by kernel_rfl) (K.OW.q rfl (K.QR.k (v := .pointer (some ⟨r_4, 0, none⟩)) (by kernel_rfl)) ?_)
          refine ⟨.inl (hS.pick [0, 2]), ?_⟩
          refine K.DW.l 26 rfl (by kernel_rfl) (by kernel_rfl) (K.OW.q rfl (K.QR.ld1 (v := .int .i64 kb) rfl rfl (by kernel_rfl) ((hS.blk 1 rfl hg_6).cell rfl)) ?_)
          refine ⟨.inl (hS.pick [0, 2]), ?_⟩
          refine K.DW.l 27 rfl (by kernel_rfl) (by kernel_rfl) (K.OW.q rfl (K.QR.ix kb.toNat 1 rfl rfl rfl Try.underlying73 (by kernel_rfl) (by omega) (by first | (simp; done) | omega | (simp; omega))) ?_)
          refine ⟨.inl (hS.pick [0, 2]), ?_⟩
          refine K.DW.l 28 rfl (by kernel_rfl) (by kernel_rfl) (K.OW.q rfl (K.QR.ld1 (v := .int .i64 (([0, 1, 1, 2, 2, 2, 3, 3, 3] : List Int).getD kb.toNat 0)) rfl rfl (by kernel_rfl) (K.Own.atS (c := cI64) (d := 0) (fun _ => rfl) (hS.ownr 0 rfl o_10) rfl kb.toNat (by omega))) ?_)
          refine ⟨.inl (hS.pick [0, 2]), ?_⟩
          by_cases h_15 : (([0, 1, 1, 2, 2, 2, 3, 3, 3] : List Int).getD ka.toNat 0 : Int) = (([0, 1, 1, 2, 2, 2, 3, 3, 3] : List Int).getD kb.toNat 0 : Int)
          ·  -- yes
            refine K.DW.l 29 rfl (by kernel_rfl) (by kernel_rfl) (K.OW.q rfl (K.QR.nice (v := .bool ((([0, 1, 1, 2, 2, 2, 3, 3, 3] : List Int).getD ka.toNat 0 : Int) != (([0, 1, 1, 2, 2, 2, 3, 3, 3] : List Int).getD kb.toNat 0 : Int))) (by kernel_rfl) (congrArg Value.bool (bne_eq_false_iff_eq.2 h_15))) ?_)
            refine ⟨.inl (hS.pick [0, 2]), ?_⟩
            refine K.DW.l 30 rfl (by kernel_rfl) rfl (K.OW.q rfl (K.QR.k (v := .bool false) (by kernel_rfl)) ?_)
            refine ⟨.inl (hS.pick [0, 2]), ?_⟩
            refine K.DW.done (by kernel_rfl) ?_
            refine K.thn_normal ?_
            refine K.KW.ifF rfl ?_
            refine K.KW.skip ?_
            refine K.thn_normal ?_
            refine K.KW.seq ?_
            -- 4 :95
            refine K.KW.region ?_
            refine K.RW.qs [.slice (some ⟨r_7, 0, none⟩) 9 9, .pointer (some ⟨r_1, 0, none⟩)] (by kernel_rfl) ?_
            refine K.RW.q rfl rfl (K.QR.ld1 (v := .int .i64 ka) rfl rfl (by kernel_rfl) ((hS.blk 2 rfl hg_3).cell rfl)) ?_
            refine K.RW.q rfl rfl (K.QR.ix ka.toNat 1 rfl rfl rfl Try.underlying73 (by kernel_rfl) (by omega) (by first | (simp; done) | omega | (simp; omega))) ?_
            refine K.RW.q rfl rfl (K.QR.ld1 (v := .int .i64 (([0, 1, 1, 2, 2, 2, 3, 3, 3] : List Int).getD ka.toNat 0)) rfl rfl (by kernel_rfl) (K.Own.atS (c := cI64) (d := 0) (fun _ => rfl) (hS.ownr 0 rfl o_10) rfl ka.toNat (by omega))) ?_
            by_cases h_16 : (([0, 1, 1, 2, 2, 2, 3, 3, 3] : List Int).getD ka.toNat 0 : Int) > (1 : Int)
            ·  -- yes
              refine K.RW.q rfl rfl (K.QR.nice (v := .bool (decide ((([0, 1, 1, 2, 2, 2, 3, 3, 3] : List Int).getD ka.toNat 0 : Int) > (1 : Int)))) (by kernel_rfl) (congrArg Value.bool (decide_eq_true h_16))) ?_
              refine K.RW.qs [.bool true, .pointer (some ⟨r_1, 1, none⟩)] (by kernel_rfl) ?_
              refine K.RW.q rfl (by kernel_rfl) (K.QR.ld1 (v := .int .u32 ya) rfl rfl (by kernel_rfl) ((hS.blk 2 rfl hg_3).cell rfl)) ?_
              refine K.RW.qs [.pointer (some ⟨r_4, 1, none⟩)] (by kernel_rfl) ?_
              refine K.RW.q rfl (by kernel_rfl) (K.QR.ld1 (v := .int .u32 yb) rfl rfl (by kernel_rfl) ((hS.blk 1 rfl hg_6).cell rfl)) ?_
              by_cases h_17 : (ya : Int) = (yb : Int)
              ·  -- yes
                refine K.RW.q rfl (by kernel_rfl) (K.QR.nice (v := .bool ((ya : Int) != (yb : Int))) (by kernel_rfl) (congrArg Value.bool (bne_eq_false_iff_eq.2 h_17))) ?_
                refine K.RW.qs [.bool false, .bool false, .pointer (some ⟨r_1, 0, none⟩)] (by kernel_rfl) ?_
                refine K.RW.q rfl (by kernel_rfl) (K.QR.ld1 (v := .int .i64 ka) rfl rfl (by kernel_rfl) ((hS.blk 2 rfl hg_3).cell rfl)) ?_
                refine K.RW.l (by kernel_rfl) (K.OW.kcall hS [.int .i64 ka] (looks_ok ka _) ?_)
                rintro _ w ⟨rfl, c_18⟩
                replace hS := hS.no c_18
                cases hb_19 : decide (ka = 5 ∨ ka = 7)
                ·
                  refine K.RW.qs [.bool false] (by kernel_rfl) ?_
                  refine K.RW.skip rfl (by kernel_rfl) ?_
                  refine K.RW.skip rfl (by kernel_rfl) ?_
                  refine K.RW.skip rfl (by kernel_rfl) ?_
                  refine K.RW.qs [.bool false, .bool false, .bool false] (by kernel_rfl) ?_
                  refine K.RW.nil ?_
                  refine K.thn_normal ?_
                  refine K.KW.ret ?_
                  have pa := fun h => part_get (k := ka) h
                  have pb := fun h => part_get (k := kb) h
                  have hd_20 := of_decide_eq_false hb_19
                  refine ⟨.inr rfl, rfl, (.bool false), K.res1 rfl rfl, [], ?_, hS.pick [3]⟩
                  exact ⟨congrArg Value.bool (decide_eq_false (by unfold apartP; by_cases ia : 1 ≤ ka ∧ ka ≤ 8 <;> by_cases ib : 1 ≤ kb ∧ kb ≤ 8 <;> first | omega | (rw [← pa ia, ← pb ib]; omega))).symm, rfl⟩
                ·
                  refine K.RW.qs [.bool true, .pointer (some ⟨r_4, 0, none⟩)] (by kernel_rfl) ?_
                  refine K.RW.q rfl (by kernel_rfl) (K.QR.ld1 (v := .int .i64 kb) rfl rfl (by kernel_rfl) ((hS.blk 1 rfl hg_6).cell rfl)) ?_
                  refine K.RW.l (by kernel_rfl) (K.OW.kcall hS [.int .i64 kb] (looks_ok kb _) ?_)
                  rintro _ w ⟨rfl, c_21⟩
                  replace hS := hS.no c_21
                  cases hb_22 : decide (kb = 5 ∨ kb = 7)
                  ·
                    refine K.RW.qs [.bool false, .bool false, .bool false] (by kernel_rfl) ?_
                    refine K.RW.nil ?_
                    refine K.thn_normal ?_
                    refine K.KW.ret ?_
                    have pa := fun h => part_get (k := ka) h
                    have pb := fun h => part_get (k := kb) h
                    have hd_23 := of_decide_eq_true hb_19
                    have hd_24 := of_decide_eq_false hb_22
                    refine ⟨.inr rfl, rfl, (.bool false), K.res1 rfl rfl, [], ?_, hS.pick [3]⟩
                    exact ⟨congrArg Value.bool (decide_eq_false (by unfold apartP; by_cases ia : 1 ≤ ka ∧ ka ≤ 8 <;> by_cases ib : 1 ≤ kb ∧ kb ≤ 8 <;> first | omega | (rw [← pa ia, ← pb ib]; omega))).symm, rfl⟩
                  ·
                    refine K.RW.qs [.bool true, .bool true, .bool true] (by kernel_rfl) ?_
                    refine K.RW.nil ?_
                    refine K.thn_normal ?_
                    refine K.KW.ret ?_
                    have pa := fun h => part_get (k := ka) h
                    have pb := fun h => part_get (k := kb) h
                    have hd_25 := of_decide_eq_true hb_19
                    have hd_26 := of_decide_eq_true hb_22
                    refine ⟨.inr rfl, rfl, (.bool true), K.res1 rfl rfl, [], ?_, hS.pick [3]⟩
                    exact ⟨congrArg Value.bool (decide_eq_true (by unfold apartP; by_cases ia : 1 ≤ ka ∧ ka ≤ 8 <;> by_cases ib : 1 ≤ kb ∧ kb ≤ 8 <;> first | omega | (rw [← pa ia, ← pb ib]; omega))).symm, rfl⟩
              ·  -- no
                refine K.RW.q rfl (by kernel_rfl) (K.QR.nice (v := .bool ((ya : Int) != (yb : Int))) (by kernel_rfl) (congrArg Value.bool (bne_iff_ne.2 h_17))) ?_
                refine K.RW.qs [.bool true, .bool true] (by kernel_rfl) ?_
                refine K.RW.skip rfl (by kernel_rfl) ?_
                refine K.RW.skip rfl (by kernel_rfl) ?_
                refine K.RW.skip rfl (by kernel_rfl) ?_
                refine K.RW.skip rfl (by kernel_rfl) ?_
                refine K.RW.skip rfl (by kernel_rfl) ?_
                refine K.RW.skip rfl (by kernel_rfl) ?_
                refine K.RW.skip rfl (by kernel_rfl) ?_
                refine K.RW.skip rfl (by kernel_rfl) ?_
                refine K.RW.qs [.bool true, .bool true] (by kernel_rfl) ?_
                refine K.RW.nil ?_
                refine K.thn_normal ?_
                refine K.KW.ret ?_
                have pa := fun h => part_get (k := ka) h
                have pb := fun h => part_get (k := kb) h
                refine ⟨.inr rfl, rfl, (.bool true), K.res1 rfl rfl, [], ?_, hS.pick [3]⟩
                exact ⟨congrArg Value.bool (decide_eq_true (by unfold apartP; by_cases ia : 1 ≤ ka ∧ ka ≤ 8 <;> by_cases ib : 1 ≤ kb ∧ kb ≤ 8 <;> first | omega | (rw [← pa ia, ← pb ib]; omega))).symm, rfl⟩
            ·  -- no
              refine K.RW.q rfl rfl (K.QR.nice (v := .bool (decide ((([0, 1, 1, 2, 2, 2, 3, 3, 3] : List Int).getD ka.toNat 0 : Int) > (1 : Int)))) (by kernel_rfl) (congrArg Value.bool (decide_eq_false h_16))) ?_
              refine K.RW.qs [.bool false] (by kernel_rfl) ?_
              refine K.RW.skip rfl (by kernel_rfl) ?_
              refine K.RW.skip rfl (by kernel_rfl) ?_
              refine K.RW.skip rfl (by kernel_rfl) ?_
              refine K.RW.skip rfl (by kernel_rfl) ?_
              refine K.RW.skip rfl (by kernel_rfl) ?_
              refine K.RW.qs [.bool false, .bool false, .pointer (some ⟨r_1, 0, none⟩)] (by kernel_rfl) ?_
              refine K.RW.q rfl (by kernel_rfl) (K.QR.ld1 (v := .int .i64 ka) rfl rfl (by kernel_rfl) ((hS.blk 2 rfl hg_3).cell rfl)) ?_
              refine K.RW.l (by kernel_rfl) (K.OW.kcall hS [.int .i64 ka] (looks_ok ka _) ?_)
              rintro _ w ⟨rfl, c_27⟩
              replace hS := hS.no c_27
              cases hb_28 : decide (ka = 5 ∨ ka = 7)
              ·
                refine K.RW.qs [.bool false] (by kernel_rfl) ?_
                refine K.RW.skip rfl (by kernel_rfl) ?_
                refine K.RW.skip rfl (by kernel_rfl) ?_
                refine K.RW.skip rfl (by kernel_rfl) ?_
                refine K.RW.qs [.bool false, .bool false, .bool false] (by kernel_rfl) ?_
                refine K.RW.nil ?_
                refine K.thn_normal ?_
                refine K.KW.ret ?_
                have pa := fun h => part_get (k := ka) h
                have pb := fun h => part_get (k := kb) h
                have hd_29 := of_decide_eq_false hb_28
                refine ⟨.inr rfl, rfl, (.bool false), K.res1 rfl rfl, [], ?_, hS.pick [3]⟩
                exact ⟨congrArg Value.bool (decide_eq_false (by unfold apartP; by_cases ia : 1 ≤ ka ∧ ka ≤ 8 <;> by_cases ib : 1 ≤ kb ∧ kb ≤ 8 <;> first | omega | (rw [← pa ia, ← pb ib]; omega))).symm, rfl⟩
              ·
                refine K.RW.qs [.bool true, .pointer (some ⟨r_4, 0, none⟩)] (by kernel_rfl) ?_
                refine K.RW.q rfl (by kernel_rfl) (K.QR.ld1 (v := .int .i64 kb) rfl rfl (by kernel_rfl) ((hS.blk 1 rfl hg_6).cell rfl)) ?_
                refine K.RW.l (by kernel_rfl) (K.OW.kcall hS [.int .i64 kb] (looks_ok kb _) ?_)
                rintro _ w ⟨rfl, c_30⟩
                replace hS := hS.no c_30
                cases hb_31 : decide (kb = 5 ∨ kb = 7)
                ·
                  refine K.RW.qs [.bool false, .bool false, .bool false] (by kernel_rfl) ?_
                  refine K.RW.nil ?_
                  refine K.thn_normal ?_
                  refine K.KW.ret ?_
                  have pa := fun h => part_get (k := ka) h
                  have pb := fun h => part_get (k := kb) h
                  have hd_32 := of_decide_eq_true hb_28
                  have hd_33 := of_decide_eq_false hb_31
                  refine ⟨.inr rfl, rfl, (.bool false), K.res1 rfl rfl, [], ?_, hS.pick [3]⟩
                  exact ⟨congrArg Value.bool (decide_eq_false (by unfold apartP; by_cases ia : 1 ≤ ka ∧ ka ≤ 8 <;> by_cases ib : 1 ≤ kb ∧ kb ≤ 8 <;> first | omega | (rw [← pa ia, ← pb ib]; omega))).symm, rfl⟩
                ·
                  refine K.RW.qs [.bool true, .bool true, .bool true] (by kernel_rfl) ?_
                  refine K.RW.nil ?_
                  refine K.thn_normal ?_
                  refine K.KW.ret ?_
                  have pa := fun h => part_get (k := ka) h
                  have pb := fun h => part_get (k := kb) h
                  have hd_34 := of_decide_eq_true hb_28
                  have hd_35 := of_decide_eq_true hb_31
                  refine ⟨.inr rfl, rfl, (.bool true), K.res1 rfl rfl, [], ?_, hS.pick [3]⟩
                  exact ⟨congrArg Value.bool (decide_eq_true (by unfold apartP; by_cases ia : 1 ≤ ka ∧ ka ≤ 8 <;> by_cases ib : 1 ≤ kb ∧ kb ≤ 8 <;> first | omega | (rw [← pa ia, ← pb ib]; omega))).symm, rfl⟩
          ·  -- no
            refine K.DW.l 29 rfl (by kernel_rfl) (by kernel_rfl) (K.OW.q rfl (K.QR.nice (v := .bool ((([0, 1, 1, 2, 2, 2, 3, 3, 3] : List Int).getD ka.toNat 0 : Int) != (([0, 1, 1, 2, 2, 2, 3, 3, 3] : List Int).getD kb.toNat 0 : Int))) (by kernel_rfl) (congrArg Value.bool (bne_iff_ne.2 h_15))) ?_)
            refine ⟨.inl (hS.pick [0, 2]), ?_⟩
            refine K.DW.l 30 rfl (by kernel_rfl) rfl (K.OW.q rfl (K.QR.k (v := .bool true) (by kernel_rfl)) ?_)
            refine ⟨.inl (hS.pick [0, 2]), ?_⟩
            refine K.DW.done (by kernel_rfl) ?_
            refine K.thn_normal ?_
            refine K.KW.ifT rfl ?_
            refine K.KW.seq ?_
            -- 3 :93
            refine K.KW.region ?_
            refine K.RW.qs [.bool true] (by kernel_rfl) ?_
            refine K.RW.nil ?_
            refine K.thn_normal ?_
            refine K.KW.ret ?_
            refine K.thn_ret ?_
            have pa := fun h => part_get (k := ka) h
            have pb := fun h => part_get (k := kb) h
            refine ⟨.inr rfl, rfl, (.bool true), K.res1 rfl rfl, [], ?_, hS.pick [3]⟩
            exact ⟨congrArg Value.bool (decide_eq_true (by unfold apartP; by_cases ia : 1 ≤ ka ∧ ka ≤ 8 <;> by_cases ib : 1 ≤ kb ∧ kb ≤ 8 <;> first | omega | (rw [← pa ia, ← pb ib]; omega))).symm, rfl⟩

theorem apart2_ok (w0 : World) (ka ya va kb yb vb : Int) : K.GC Try.prog w0 31 #[.agg #[.int .i64 ka, .int .u32 ya, .int .u32 va], .agg #[.int .i64 kb, .int .u32 yb, .int .u32 vb]] []
    (fun v post => post = [] ∧ ((v = .bool true ∧ apartP ka ya kb yb) ∨ (v = .bool false ∧ ¬ apartP ka ya kb yb))) := by
  refine (apart_ok w0 ka ya va kb yb vb).mono ?_
  rintro v post ⟨rfl, rfl⟩
  by_cases h : apartP ka ya kb yb
  · exact ⟨rfl, .inl ⟨by rw [decide_eq_true h], h⟩⟩
  · exact ⟨rfl, .inr ⟨by rw [decide_eq_false h], h⟩⟩
theorem runT_bounds : ∀ (ls : List OpM) {S : StM}, rising S.s → rising (keysP S.m) → (runT S ls).1.q.length ≤ S.q.length + ls.length ∧ (runT S ls).1.s.length ≤ S.s.length + ls.length ∧ (runT S ls).1.m.length ≤ S.m.length + ls.length
  | [], S, _, _ => ⟨Nat.le_refl _, Nat.le_refl _, Nat.le_refl _⟩
  | o :: l, S, h1, h2 => by
    obtain ⟨a1, a2, a3, a4, a5⟩ := applyT_ok (kind := o.kind) (key := o.key) (val := o.val) h1 h2
    obtain ⟨b1, b2, b3⟩ := runT_bounds l (S := (apO S o).1) a4 a5
    show (runT (apO S o).1 l).1.q.length ≤ _ ∧ (runT (apO S o).1 l).1.s.length ≤ _ ∧ (runT (apO S o).1 l).1.m.length ≤ _
    simp only [List.length_cons]
    have e1 : (apO S o).1.q.length ≤ S.q.length + 1 := a1
    have e2 : (apO S o).1.s.length ≤ S.s.length + 1 := a2
    have e3 : (apO S o).1.m.length ≤ S.m.length + 1 := a3
    exact ⟨by omega, by omega, by omega⟩

set_option maxHeartbeats 1000000 in
set_option maxRecDepth 100000 in
theorem l8turns_ok (w0 : World) (q s m : Option Addr) (cq cs cm : Nat) (qa sa : List Int) (ma : List PairM) (ka ya va kb yb vb : Int) (hc : qa.length ≤ cq) (x1 : RU32 w0 q qa) (x2 : RU32 w0 s sa) (x3 : RPr w0 m ma) :
    K.GC Try.prog w0 4 #[.agg #[.slice q qa.length cq, .slice s sa.length cs, .slice m ma.length cm], .agg #[.int .i64 ka, .int .u32 ya, .int .u32 va], .agg #[.int .i64 kb, .int .u32 yb, .int .u32 vb]] [] (fun v post => v = .bool true) := by
  refine K.GC.mk (n := 93) Try.func4 rfl rfl [.agg #[.slice q qa.length cq, .slice s sa.length cs, .slice m ma.length cm], .agg #[.int .i64 ka, .int .u32 ya, .int .u32 va], .agg #[.int .i64 kb, .int .u32 yb, .int .u32 vb]] rfl rfl ?_
  intro fr w hS
  replace hS : K.Sat w0 [fr] w := hS
  refine K.KW.seq ?_
  -- 0 :99
  refine K.KW.region ?_
  refine K.RW.l rfl (K.OW.gnew 42 [.slice q qa.length cq, .slice s sa.length cs, .slice m ma.length cm] hS ?_)
  clear hS; intro w r_1 g_2 hg_3 hS
  refine K.RW.l rfl (K.OW.gnew 45 [.int .i64 ka, .int .u32 ya, .int .u32 va] hS ?_)
  clear hS; intro w r_4 g_5 hg_6 hS
  refine K.RW.l rfl (K.OW.gnew 45 [.int .i64 kb, .int .u32 yb, .int .u32 vb] hS ?_)
  clear hS; intro w r_7 g_8 hg_9 hS
  refine K.RW.qs [.bool false] (by kernel_rfl) ?_
  refine K.RW.nil ?_
  refine K.thn_normal ?_
  refine K.KW.seq ?_
  refine K.KW.seq ?_
  -- 1 :100
  refine K.KW.region ?_
  refine K.RW.q rfl rfl (K.QR.ldN [.slice q qa.length cq, .slice s sa.length cs, .slice m ma.length cm] rfl rfl (by kernel_rfl) (by kernel_rfl) (K.cells (K.cl ((hS.blk 2 rfl hg_3).cell rfl) (K.cl ((hS.blk 2 rfl hg_3).cell rfl) (K.cl ((hS.blk 2 rfl hg_3).cell rfl) K.cl0))))) ?_
  refine K.RW.l rfl (K.OW.kcall hS [.agg #[.slice q qa.length cq, .slice s sa.length cs, .slice m ma.length cm]] (few8_ok _ _ _ _ _ _ _ _ _ _) ?_)
  rintro _ w ⟨rfl, c_10⟩
  replace hS := hS.no c_10
  cases hb_11 : decide (qa.length ≤ 100 ∧ sa.length ≤ 100 ∧ ma.length ≤ 100)
  ·
    refine K.RW.qs [.bool true, .bool true] (by kernel_rfl) ?_
    refine K.RW.skip rfl (by kernel_rfl) ?_
    refine K.RW.skip rfl (by kernel_rfl) ?_
    refine K.RW.skip rfl (by kernel_rfl) ?_
    refine K.RW.qs [.bool true] (by kernel_rfl) ?_
    refine K.RW.nil ?_
    refine K.thn_normal ?_
    refine K.KW.ifT rfl ?_
    refine K.KW.seq ?_
    -- 2 :101
    refine K.KW.region ?_
    refine K.RW.l rfl (K.OW.kcall hS [] (awake08_ok _) ?_)
    rintro _ w ⟨rfl, c_12⟩
    replace hS := hS.no c_12
    refine K.RW.qs [.bool true] (by kernel_rfl) ?_
    refine K.RW.nil ?_
    refine K.thn_normal ?_
    refine K.KW.ret ?_
    refine K.thn_ret ?_
    refine ⟨.inr rfl, rfl, (.bool true), K.res1 rfl rfl, [], ?_, hS.pick [3]⟩
    exact rfl
  ·
    obtain ⟨hf_13, hf_14, hf_15⟩ := of_decide_eq_true hb_11
    refine K.RW.qs [.bool false, .bool false] (by kernel_rfl) ?_
    refine K.RW.q rfl (by kernel_rfl) (K.QR.ldN [.slice q qa.length cq, .slice s sa.length cs, .slice m ma.length cm] rfl rfl (by kernel_rfl) (by kernel_rfl) (K.cells (K.cl ((hS.blk 2 rfl hg_3).cell rfl) (K.cl ((hS.blk 2 rfl hg_3).cell rfl) (K.cl ((hS.blk 2 rfl hg_3).cell rfl) K.cl0))))) ?_
    refine K.RW.l (by kernel_rfl) (K.OW.kcall hS [.agg #[.slice q qa.length cq, .slice s sa.length cs, .slice m ma.length cm]] (rright_ok _ _ _ _ _ _ _ sa ma _ (by omega) (by omega) (x2.no hS.chg) (x3.no hS.chg)) ?_)
    rintro _ w ⟨rfl, c_16⟩
    replace hS := hS.no c_16
    cases hb_17 : (risingB sa && risingB (keysP ma))
    ·
      refine K.RW.qs [.bool true, .bool true] (by kernel_rfl) ?_
      refine K.RW.nil ?_
      refine K.thn_normal ?_
      refine K.KW.ifT rfl ?_
      refine K.KW.seq ?_
      -- 2 :101
      refine K.KW.region ?_
      refine K.RW.l rfl (K.OW.kcall hS [] (awake08_ok _) ?_)
      rintro _ w ⟨rfl, c_18⟩
      replace hS := hS.no c_18
      refine K.RW.qs [.bool true] (by kernel_rfl) ?_
      refine K.RW.nil ?_
      refine K.thn_normal ?_
      refine K.KW.ret ?_
      refine K.thn_ret ?_
      refine ⟨.inr rfl, rfl, (.bool true), K.res1 rfl rfl, [], ?_, hS.pick [3]⟩
      exact rfl
    ·
      obtain ⟨hr_19, hr_20⟩ := of_right hb_17
      refine K.RW.qs [.bool false, .bool false] (by kernel_rfl) ?_
      refine K.RW.nil ?_
      refine K.thn_normal ?_
      refine K.KW.ifF rfl ?_
      refine K.KW.skip ?_
      refine K.thn_normal ?_
      refine K.KW.seq ?_
      -- 3 :103
      refine K.KW.region ?_
      refine K.RW.q rfl rfl (K.QR.ldN [.slice q qa.length cq, .slice s sa.length cs, .slice m ma.length cm] rfl rfl (by kernel_rfl) (by kernel_rfl) (K.cells (K.cl ((hS.blk 2 rfl hg_3).cell rfl) (K.cl ((hS.blk 2 rfl hg_3).cell rfl) (K.cl ((hS.blk 2 rfl hg_3).cell rfl) K.cl0))))) ?_
      refine K.RW.q rfl rfl (K.QR.ldN [.int .i64 ka, .int .u32 ya, .int .u32 va] rfl rfl (by kernel_rfl) (by kernel_rfl) (K.cells (K.cl ((hS.blk 1 rfl hg_6).cell rfl) (K.cl ((hS.blk 1 rfl hg_6).cell rfl) (K.cl ((hS.blk 1 rfl hg_6).cell rfl) K.cl0))))) ?_
      refine K.RW.q rfl rfl (K.QR.ldN [.int .i64 kb, .int .u32 yb, .int .u32 vb] rfl rfl (by kernel_rfl) (by kernel_rfl) (K.cells (K.cl ((hS.blk 0 rfl hg_9).cell rfl) (K.cl ((hS.blk 0 rfl hg_9).cell rfl) (K.cl ((hS.blk 0 rfl hg_9).cell rfl) K.cl0))))) ?_
      refine K.RW.l rfl (K.OW.gbs [(0, .agg #[.int .i64 ka, .int .u32 ya, .int .u32 va]), (1, .agg #[.int .i64 kb, .int .u32 yb, .int .u32 vb])] [.int .i64 ka, .int .u32 ya, .int .u32 va, .int .i64 kb, .int .u32 yb, .int .u32 vb] hS (fun w => K.bs_run (P := Try.prog) w 50 45 2 _ _ Try.underlying50 (by kernel_rfl)) ?_)
      clear hS; intro w r_21 g_22 hg_23 hS
      refine K.RW.l rfl (K.OW.gcall hS [55, 56, 57, 0] [1, 2, 3, 4] [.agg #[.slice q qa.length cq, .slice s sa.length cs, .slice m ma.length cm], .slice (some ⟨r_21, 0, none⟩) 2 2] (runG_ok _ _ _ _ _ _ _ qa sa ma _ _ [(⟨ka, ya, va⟩ : OpM), (⟨kb, yb, vb⟩ : OpM)] (by omega) (by omega) (by omega) (by first | omega | (simp; done)) (by assumption) (by assumption) (by omega) _ (fun w h => x1.no h.chg) _ (fun w h => x2.no h.chg) _ (fun w h => x3.no h.chg) _ (fun w h => K.Blk.rowE (c := cOp) op0 (L := [(⟨ka, ya, va⟩ : OpM), (⟨kb, yb, vb⟩ : OpM)]) (h.blk 0 rfl hg_23) (fun _ => rfl) rfl)) ?_)
      clear hS; rintro _ _ w ⟨a1_24, c1_25, a2_26, c2_27, a3_28, c3_29, r_30, c_31, g1_32, g2_33, g3_34, gr_35, rfl, rfl, x1_36, x2_37, x3_38, o_39⟩ hS
      replace hS : K.Sat w0 [g1_32, g2_33, g3_34, g_22, gr_35, g_8, g_5, g_2, fr] w := hS.of (by simp [K.pick, K.nth])
      refine K.RW.qs [.tuple #[.agg #[.slice a1_24 ((runT ⟨qa, sa, ma⟩ [(⟨ka, ya, va⟩ : OpM), (⟨kb, yb, vb⟩ : OpM)]).1.q.length) c1_25, .slice a2_26 ((runT ⟨qa, sa, ma⟩ [(⟨ka, ya, va⟩ : OpM), (⟨kb, yb, vb⟩ : OpM)]).1.s.length) c2_27, .slice a3_28 ((runT ⟨qa, sa, ma⟩ [(⟨ka, ya, va⟩ : OpM), (⟨kb, yb, vb⟩ : OpM)]).1.m.length) c3_29], .slice r_30 ((runT ⟨qa, sa, ma⟩ [(⟨ka, ya, va⟩ : OpM), (⟨kb, yb, vb⟩ : OpM)]).2.length) c_31], .agg #[.slice a1_24 ((runT ⟨qa, sa, ma⟩ [(⟨ka, ya, va⟩ : OpM), (⟨kb, yb, vb⟩ : OpM)]).1.q.length) c1_25, .slice a2_26 ((runT ⟨qa, sa, ma⟩ [(⟨ka, ya, va⟩ : OpM), (⟨kb, yb, vb⟩ : OpM)]).1.s.length) c2_27, .slice a3_28 ((runT ⟨qa, sa, ma⟩ [(⟨ka, ya, va⟩ : OpM), (⟨kb, yb, vb⟩ : OpM)]).1.m.length) c3_29], .slice r_30 ((runT ⟨qa, sa, ma⟩ [(⟨ka, ya, va⟩ : OpM), (⟨kb, yb, vb⟩ : OpM)]).2.length) c_31] (by kernel_rfl) ?_
      refine K.RW.l rfl (K.OW.gnew 42 [.slice none 0 0, .slice none 0 0, .slice none 0 0] hS ?_)
      clear hS; intro w r_40 g_41 hg_42 hS
      refine K.RW.l rfl (K.OW.gst 0 [.slice a1_24 ((runT ⟨qa, sa, ma⟩ [(⟨ka, ya, va⟩ : OpM), (⟨kb, yb, vb⟩ : OpM)]).1.q.length) c1_25, .slice a2_26 ((runT ⟨qa, sa, ma⟩ [(⟨ka, ya, va⟩ : OpM), (⟨kb, yb, vb⟩ : OpM)]).1.s.length) c2_27, .slice a3_28 ((runT ⟨qa, sa, ma⟩ [(⟨ka, ya, va⟩ : OpM), (⟨kb, yb, vb⟩ : OpM)]).1.m.length) c3_29] [.slice a1_24 ((runT ⟨qa, sa, ma⟩ [(⟨ka, ya, va⟩ : OpM), (⟨kb, yb, vb⟩ : OpM)]).1.q.length) c1_25, .slice a2_26 ((runT ⟨qa, sa, ma⟩ [(⟨ka, ya, va⟩ : OpM), (⟨kb, yb, vb⟩ : OpM)]).1.s.length) c2_27, .slice a3_28 ((runT ⟨qa, sa, ma⟩ [(⟨ka, ya, va⟩ : OpM), (⟨kb, yb, vb⟩ : OpM)]).1.m.length) c3_29] hS hg_42 ?_)
      clear hS; intro w g_43 hg_44 hS
      replace hS : K.Sat w0 [g_43, g1_32, g2_33, g3_34, g_22, gr_35, g_8, g_5, g_2, fr] w := hS
      refine K.RW.qs [.slice r_30 ((runT ⟨qa, sa, ma⟩ [(⟨ka, ya, va⟩ : OpM), (⟨kb, yb, vb⟩ : OpM)]).2.length) c_31] (by kernel_rfl) ?_
      refine K.RW.nil ?_
      refine K.thn_normal ?_
      refine K.KW.seq ?_
      -- 4 :104
      refine K.KW.region ?_
      refine K.RW.q rfl rfl (K.QR.ldN [.slice q qa.length cq, .slice s sa.length cs, .slice m ma.length cm] rfl rfl (by kernel_rfl) (by kernel_rfl) (K.cells (K.cl ((hS.blk 8 rfl hg_3).cell rfl) (K.cl ((hS.blk 8 rfl hg_3).cell rfl) (K.cl ((hS.blk 8 rfl hg_3).cell rfl) K.cl0))))) ?_
      refine K.RW.q rfl rfl (K.QR.ldN [.int .i64 kb, .int .u32 yb, .int .u32 vb] rfl rfl (by kernel_rfl) (by kernel_rfl) (K.cells (K.cl ((hS.blk 6 rfl hg_9).cell rfl) (K.cl ((hS.blk 6 rfl hg_9).cell rfl) (K.cl ((hS.blk 6 rfl hg_9).cell rfl) K.cl0))))) ?_
      refine K.RW.q rfl rfl (K.QR.ldN [.int .i64 ka, .int .u32 ya, .int .u32 va] rfl rfl (by kernel_rfl) (by kernel_rfl) (K.cells (K.cl ((hS.blk 7 rfl hg_6).cell rfl) (K.cl ((hS.blk 7 rfl hg_6).cell rfl) (K.cl ((hS.blk 7 rfl hg_6).cell rfl) K.cl0))))) ?_
      refine K.RW.l rfl (K.OW.gbs [(0, .agg #[.int .i64 kb, .int .u32 yb, .int .u32 vb]), (1, .agg #[.int .i64 ka, .int .u32 ya, .int .u32 va])] [.int .i64 kb, .int .u32 yb, .int .u32 vb, .int .i64 ka, .int .u32 ya, .int .u32 va] hS (fun w => K.bs_run (P := Try.prog) w 50 45 2 _ _ Try.underlying50 (by kernel_rfl)) ?_)
      clear hS; intro w r_45 g_46 hg_47 hS
      refine K.RW.l rfl (K.OW.gcall hS [61, 62, 63, 0] [1, 2, 3, 4, 5, 6, 7, 8, 9, 10] [.agg #[.slice q qa.length cq, .slice s sa.length cs, .slice m ma.length cm], .slice (some ⟨r_45, 0, none⟩) 2 2] (runG_ok _ _ _ _ _ _ _ qa sa ma _ _ [(⟨kb, yb, vb⟩ : OpM), (⟨ka, ya, va⟩ : OpM)] (by omega) (by omega) (by omega) (by first | omega | (simp; done)) (by assumption) (by assumption) (by omega) _ (fun w h => x1.no h.chg) _ (fun w h => x2.no h.chg) _ (fun w h => x3.no h.chg) _ (fun w h => K.Blk.rowE (c := cOp) op0 (L := [(⟨kb, yb, vb⟩ : OpM), (⟨ka, ya, va⟩ : OpM)]) (h.blk 0 rfl hg_47) (fun _ => rfl) rfl)) ?_)
      clear hS; rintro _ _ w ⟨a1_48, c1_49, a2_50, c2_51, a3_52, c3_53, r_54, c_55, g1_56, g2_57, g3_58, gr_59, rfl, rfl, x1_60, x2_61, x3_62, o_63⟩ hS
      replace hS : K.Sat w0 [g1_56, g2_57, g3_58, g_46, gr_59, g_43, g1_32, g2_33, g3_34, g_22, gr_35, g_8, g_5, g_2, fr] w := hS.of (by simp [K.pick, K.nth])
      refine K.RW.qs [.tuple #[.agg #[.slice a1_48 ((runT ⟨qa, sa, ma⟩ [(⟨kb, yb, vb⟩ : OpM), (⟨ka, ya, va⟩ : OpM)]).1.q.length) c1_49, .slice a2_50 ((runT ⟨qa, sa, ma⟩ [(⟨kb, yb, vb⟩ : OpM), (⟨ka, ya, va⟩ : OpM)]).1.s.length) c2_51, .slice a3_52 ((runT ⟨qa, sa, ma⟩ [(⟨kb, yb, vb⟩ : OpM), (⟨ka, ya, va⟩ : OpM)]).1.m.length) c3_53], .slice r_54 ((runT ⟨qa, sa, ma⟩ [(⟨kb, yb, vb⟩ : OpM), (⟨ka, ya, va⟩ : OpM)]).2.length) c_55], .agg #[.slice a1_48 ((runT ⟨qa, sa, ma⟩ [(⟨kb, yb, vb⟩ : OpM), (⟨ka, ya, va⟩ : OpM)]).1.q.length) c1_49, .slice a2_50 ((runT ⟨qa, sa, ma⟩ [(⟨kb, yb, vb⟩ : OpM), (⟨ka, ya, va⟩ : OpM)]).1.s.length) c2_51, .slice a3_52 ((runT ⟨qa, sa, ma⟩ [(⟨kb, yb, vb⟩ : OpM), (⟨ka, ya, va⟩ : OpM)]).1.m.length) c3_53], .slice r_54 ((runT ⟨qa, sa, ma⟩ [(⟨kb, yb, vb⟩ : OpM), (⟨ka, ya, va⟩ : OpM)]).2.length) c_55] (by kernel_rfl) ?_
      refine K.RW.l rfl (K.OW.gnew 42 [.slice none 0 0, .slice none 0 0, .slice none 0 0] hS ?_)
      clear hS; intro w r_64 g_65 hg_66 hS
      refine K.RW.l rfl (K.OW.gst 0 [.slice a1_48 ((runT ⟨qa, sa, ma⟩ [(⟨kb, yb, vb⟩ : OpM), (⟨ka, ya, va⟩ : OpM)]).1.q.length) c1_49, .slice a2_50 ((runT ⟨qa, sa, ma⟩ [(⟨kb, yb, vb⟩ : OpM), (⟨ka, ya, va⟩ : OpM)]).1.s.length) c2_51, .slice a3_52 ((runT ⟨qa, sa, ma⟩ [(⟨kb, yb, vb⟩ : OpM), (⟨ka, ya, va⟩ : OpM)]).1.m.length) c3_53] [.slice a1_48 ((runT ⟨qa, sa, ma⟩ [(⟨kb, yb, vb⟩ : OpM), (⟨ka, ya, va⟩ : OpM)]).1.q.length) c1_49, .slice a2_50 ((runT ⟨qa, sa, ma⟩ [(⟨kb, yb, vb⟩ : OpM), (⟨ka, ya, va⟩ : OpM)]).1.s.length) c2_51, .slice a3_52 ((runT ⟨qa, sa, ma⟩ [(⟨kb, yb, vb⟩ : OpM), (⟨ka, ya, va⟩ : OpM)]).1.m.length) c3_53] hS hg_66 ?_)
      clear hS; intro w g_67 hg_68 hS
      replace hS : K.Sat w0 [g_67, g1_56, g2_57, g3_58, g_46, gr_59, g_43, g1_32, g2_33, g3_34, g_22, gr_35, g_8, g_5, g_2, fr] w := hS
      refine K.RW.qs [.slice r_54 ((runT ⟨qa, sa, ma⟩ [(⟨kb, yb, vb⟩ : OpM), (⟨ka, ya, va⟩ : OpM)]).2.length) c_55] (by kernel_rfl) ?_
      refine K.RW.nil ?_
      refine K.thn_normal ?_
      refine K.KW.seq ?_
      -- 5 :105
      refine K.KW.region ?_
      refine K.RW.q rfl rfl (K.QR.ldN [.slice q qa.length cq, .slice s sa.length cs, .slice m ma.length cm] rfl rfl (by kernel_rfl) (by kernel_rfl) (K.cells (K.cl ((hS.blk 14 rfl hg_3).cell rfl) (K.cl ((hS.blk 14 rfl hg_3).cell rfl) (K.cl ((hS.blk 14 rfl hg_3).cell rfl) K.cl0))))) ?_
      refine K.RW.q rfl rfl (K.QR.ldN [.int .i64 ka, .int .u32 ya, .int .u32 va] rfl rfl (by kernel_rfl) (by kernel_rfl) (K.cells (K.cl ((hS.blk 13 rfl hg_6).cell rfl) (K.cl ((hS.blk 13 rfl hg_6).cell rfl) (K.cl ((hS.blk 13 rfl hg_6).cell rfl) K.cl0))))) ?_
      refine K.RW.l rfl (K.OW.gcall hS [66, 67, 68] [0, 1, 2, 3, 4, 5, 6, 7, 8, 9, 10, 11, 12, 13, 14, 15] [.agg #[.slice q qa.length cq, .slice s sa.length cs, .slice m ma.length cm], .agg #[.int .i64 ka, .int .u32 ya, .int .u32 va]] (applyG_ok _ _ _ _ _ _ _ qa sa ma ka ya va (by omega) (by omega) (by omega) (by assumption) (by assumption) (by omega) _ _ _ (fun w h => x1.no h.chg) (fun w h => x2.no h.chg) (fun w h => x3.no h.chg)) ?_)
      clear hS; rintro _ _ w ⟨a1_69, c1_70, a2_71, c2_72, a3_73, c3_74, g1_75, g2_76, g3_77, rfl, rfl, x1_78, x2_79, x3_80, hc_81⟩ hS
      replace hS : K.Sat w0 [g1_75, g2_76, g3_77, g_67, g1_56, g2_57, g3_58, g_46, gr_59, g_43, g1_32, g2_33, g3_34, g_22, gr_35, g_8, g_5, g_2, fr] w := hS.of (by simp [K.pick, K.nth])
      obtain ⟨h_82, h_83, h_84, h_85, h_86⟩ := applyT_okE (q := qa) (s := sa) (m := ma) (kind := ka) (key := ya) (val := va) (by assumption) (by assumption)
      refine K.RW.qs [.tuple #[.agg #[.slice a1_69 ((applyT ⟨qa, sa, ma⟩ ka ya va).1.q.length) c1_70, .slice a2_71 ((applyT ⟨qa, sa, ma⟩ ka ya va).1.s.length) c2_72, .slice a3_73 ((applyT ⟨qa, sa, ma⟩ ka ya va).1.m.length) c3_74], .agg #[.int .i64 ((applyT ⟨qa, sa, ma⟩ ka ya va).2.1), .int .u32 ((applyT ⟨qa, sa, ma⟩ ka ya va).2.2)]], .agg #[.slice a1_69 ((applyT ⟨qa, sa, ma⟩ ka ya va).1.q.length) c1_70, .slice a2_71 ((applyT ⟨qa, sa, ma⟩ ka ya va).1.s.length) c2_72, .slice a3_73 ((applyT ⟨qa, sa, ma⟩ ka ya va).1.m.length) c3_74], .agg #[.int .i64 ((applyT ⟨qa, sa, ma⟩ ka ya va).2.1), .int .u32 ((applyT ⟨qa, sa, ma⟩ ka ya va).2.2)]] (by kernel_rfl) ?_
      refine K.RW.l rfl (K.OW.gnew 42 [.slice none 0 0, .slice none 0 0, .slice none 0 0] hS ?_)
      clear hS; intro w r_87 g_88 hg_89 hS
      refine K.RW.l rfl (K.OW.gnew 52 [.int .i64 0, .int .u32 0] hS ?_)
      clear hS; intro w r_90 g_91 hg_92 hS
      refine K.RW.l rfl (K.OW.gst 1 [.slice a1_69 ((applyT ⟨qa, sa, ma⟩ ka ya va).1.q.length) c1_70, .slice a2_71 ((applyT ⟨qa, sa, ma⟩ ka ya va).1.s.length) c2_72, .slice a3_73 ((applyT ⟨qa, sa, ma⟩ ka ya va).1.m.length) c3_74] [.slice a1_69 ((applyT ⟨qa, sa, ma⟩ ka ya va).1.q.length) c1_70, .slice a2_71 ((applyT ⟨qa, sa, ma⟩ ka ya va).1.s.length) c2_72, .slice a3_73 ((applyT ⟨qa, sa, ma⟩ ka ya va).1.m.length) c3_74] hS hg_89 ?_)
      clear hS; intro w g_93 hg_94 hS
      replace hS : K.Sat w0 [g_91, g_93, g1_75, g2_76, g3_77, g_67, g1_56, g2_57, g3_58, g_46, gr_59, g_43, g1_32, g2_33, g3_34, g_22, gr_35, g_8, g_5, g_2, fr] w := hS
      refine K.RW.l rfl (K.OW.gst 0 [.int .i64 ((applyT ⟨qa, sa, ma⟩ ka ya va).2.1), .int .u32 ((applyT ⟨qa, sa, ma⟩ ka ya va).2.2)] [.int .i64 ((applyT ⟨qa, sa, ma⟩ ka ya va).2.1), .int .u32 ((applyT ⟨qa, sa, ma⟩ ka ya va).2.2)] hS hg_92 ?_)
      clear hS; intro w g_95 hg_96 hS
      replace hS : K.Sat w0 [g_95, g_93, g1_75, g2_76, g3_77, g_67, g1_56, g2_57, g3_58, g_46, gr_59, g_43, g1_32, g2_33, g3_34, g_22, gr_35, g_8, g_5, g_2, fr] w := hS
      refine K.RW.nil ?_
      refine K.thn_normal ?_
      refine K.KW.seq ?_
      refine K.KW.seq ?_
      -- 6 :106
      have hr1 : rising sa := by assumption
      have hr2 : rising (keysP ma) := by assumption
      have hl1 : (runT ⟨qa, sa, ma⟩ [(⟨ka, ya, va⟩ : OpM), (⟨kb, yb, vb⟩ : OpM)]).2.length = 2 := runT_len _ _
      obtain ⟨hb1a, hb1b, hb1c⟩ := runT_bounds [(⟨ka, ya, va⟩ : OpM), (⟨kb, yb, vb⟩ : OpM)] (S := ⟨qa, sa, ma⟩) hr1 hr2
      have hx1a : (runT ⟨qa, sa, ma⟩ [(⟨ka, ya, va⟩ : OpM), (⟨kb, yb, vb⟩ : OpM)]).1.q.length ≤ qa.length + 2 := hb1a
      have hx1b : (runT ⟨qa, sa, ma⟩ [(⟨ka, ya, va⟩ : OpM), (⟨kb, yb, vb⟩ : OpM)]).1.s.length ≤ sa.length + 2 := hb1b
      have hx1c : (runT ⟨qa, sa, ma⟩ [(⟨ka, ya, va⟩ : OpM), (⟨kb, yb, vb⟩ : OpM)]).1.m.length ≤ ma.length + 2 := hb1c
      have hl2 : (runT ⟨qa, sa, ma⟩ [(⟨kb, yb, vb⟩ : OpM), (⟨ka, ya, va⟩ : OpM)]).2.length = 2 := runT_len _ _
      obtain ⟨hb2a, hb2b, hb2c⟩ := runT_bounds [(⟨kb, yb, vb⟩ : OpM), (⟨ka, ya, va⟩ : OpM)] (S := ⟨qa, sa, ma⟩) hr1 hr2
      have hx2a : (runT ⟨qa, sa, ma⟩ [(⟨kb, yb, vb⟩ : OpM), (⟨ka, ya, va⟩ : OpM)]).1.q.length ≤ qa.length + 2 := hb2a
      have hx2b : (runT ⟨qa, sa, ma⟩ [(⟨kb, yb, vb⟩ : OpM), (⟨ka, ya, va⟩ : OpM)]).1.s.length ≤ sa.length + 2 := hb2b
      have hx2c : (runT ⟨qa, sa, ma⟩ [(⟨kb, yb, vb⟩ : OpM), (⟨ka, ya, va⟩ : OpM)]).1.m.length ≤ ma.length + 2 := hb2c
      refine K.KW.region ?_
      refine K.RW.qs [.slice r_30 ((runT ⟨qa, sa, ma⟩ [(⟨ka, ya, va⟩ : OpM), (⟨kb, yb, vb⟩ : OpM)]).2.length) c_31] (by kernel_rfl) ?_
      refine K.RW.q rfl rfl (K.QR.len (P := Try.prog) rfl rfl Try.underlying47) ?_
      refine K.RW.q rfl rfl (K.QR.nice (v := .bool (((((runT ⟨qa, sa, ma⟩ [(⟨ka, ya, va⟩ : OpM), (⟨kb, yb, vb⟩ : OpM)]).2.length : Nat) : Int) : Int) != (2 : Int))) (by kernel_rfl) (congrArg Value.bool (bne_eq_false_iff_eq.2 (by omega)))) ?_
      refine K.RW.qs [.bool false, .slice r_54 ((runT ⟨qa, sa, ma⟩ [(⟨kb, yb, vb⟩ : OpM), (⟨ka, ya, va⟩ : OpM)]).2.length) c_55] (by kernel_rfl) ?_
      refine K.RW.q rfl (by kernel_rfl) (K.QR.len (P := Try.prog) rfl rfl Try.underlying47) ?_
      refine K.RW.q rfl (by kernel_rfl) (K.QR.nice (v := .bool (((((runT ⟨qa, sa, ma⟩ [(⟨kb, yb, vb⟩ : OpM), (⟨ka, ya, va⟩ : OpM)]).2.length : Nat) : Int) : Int) != (2 : Int))) (by kernel_rfl) (congrArg Value.bool (bne_eq_false_iff_eq.2 (by omega)))) ?_
      refine K.RW.qs [.bool false, .bool false, .pointer (some ⟨r_4, 0, none⟩)] (by kernel_rfl) ?_
      refine K.RW.q rfl (by kernel_rfl) (K.QR.ld1 (v := .int .i64 ka) rfl rfl (by kernel_rfl) ((hS.blk 18 rfl hg_6).cell rfl)) ?_
      refine K.RW.l (by kernel_rfl) (K.OW.kcall hS [.int .i64 ka] (looks_ok ka _) ?_)
      rintro _ w ⟨rfl, c_97⟩
      replace hS := hS.no c_97
      cases hb_98 : decide (ka = 5 ∨ ka = 7)
      ·
        refine K.RW.qs [.bool false] (by kernel_rfl) ?_
        refine K.RW.skip rfl (by kernel_rfl) ?_
        refine K.RW.skip rfl (by kernel_rfl) ?_
        refine K.RW.skip rfl (by kernel_rfl) ?_
        refine K.RW.skip rfl (by kernel_rfl) ?_
        refine K.RW.qs [.bool false, .bool false] (by kernel_rfl) ?_
        refine K.RW.nil ?_
        refine K.thn_normal ?_
        refine K.KW.ifF rfl ?_
        refine K.KW.skip ?_
        refine K.thn_normal ?_
        refine K.KW.seq ?_
        -- 8 :109
        obtain ⟨b_99, rfl⟩ := o_39.some_ (by have := o_39.le; omega)
        obtain ⟨b_101, rfl⟩ := o_63.some_ (by have := o_63.le; omega)
        refine K.KW.gdrawn [11, 16, 18] hS (by kernel_rfl) ?_
        clear hS; intro w hS
        refine K.DW.l 0 rfl (by kernel_rfl) rfl (K.OW.kcall hS [] (awake08_ok _) ?_)
        rintro _ w ⟨rfl, c_103⟩
        replace hS := hS.no c_103
        refine ⟨.inl (hS.pick [11, 16, 18]), ?_⟩
        refine K.DW.l 1 rfl (by kernel_rfl) rfl (K.OW.q rfl (K.QR.k (v := .bool true) (by kernel_rfl)) ?_)
        refine ⟨.inl (hS.pick [11, 16, 18]), ?_⟩
        refine K.DW.q 2 (by kernel_rfl) rfl rfl (by kernel_rfl) (by kernel_rfl) (fun w hS => K.QR.ldN [.int .i64 ka, .int .u32 ya, .int .u32 va] rfl rfl (by kernel_rfl) (by kernel_rfl) (K.cells (K.cl ((hS.blk 2 rfl hg_6).cell rfl) (K.cl ((hS.blk 2 rfl hg_6).cell rfl) (K.cl ((hS.blk 2 rfl hg_6).cell rfl) K.cl0))))) (hS.pick [11, 16, 18]) ?_
        refine K.DW.l 3 rfl (by kernel_rfl) (by kernel_rfl) (K.OW.q rfl (K.QR.ldN [.int .i64 kb, .int .u32 yb, .int .u32 vb] rfl rfl (by kernel_rfl) (by kernel_rfl) (K.cells (K.cl ((hS.blk 17 rfl hg_9).cell rfl) (K.cl ((hS.blk 17 rfl hg_9).cell rfl) (K.cl ((hS.blk 17 rfl hg_9).cell rfl) K.cl0))))) ?_)
        refine ⟨.inl (hS.pick [11, 16, 18]), ?_⟩
        refine K.DW.l 4 rfl (by kernel_rfl) (by kernel_rfl) (K.OW.gcall hS [] [0, 1, 2, 3, 4, 5, 6, 7, 8, 9, 10, 11, 12, 13, 14, 15, 16, 17, 18, 19, 20] [.agg #[.int .i64 ka, .int .u32 ya, .int .u32 va], .agg #[.int .i64 kb, .int .u32 yb, .int .u32 vb]] (apart2_ok _ ka ya va kb yb vb) ?_)
        clear hS; rintro _ _ w ⟨rfl, (⟨rfl, h_104⟩ | ⟨rfl, h_105⟩)⟩ hS
        ·
          replace hS : K.Sat w0 [g_95, g_93, g1_75, g2_76, g3_77, g_67, g1_56, g2_57, g3_58, g_46, gr_59, g_43, g1_32, g2_33, g3_34, g_22, gr_35, g_8, g_5, g_2, fr] w := hS
          refine ⟨.inl (hS.pick [11, 16, 18]), ?_⟩
          refine K.DW.l 5 rfl (by kernel_rfl) (by kernel_rfl) (K.OW.q rfl (K.QR.k (v := .bool false) (by kernel_rfl)) ?_)
          refine ⟨.inl (hS.pick [11, 16, 18]), ?_⟩
          refine K.DW.l 6 rfl (by kernel_rfl) (by kernel_rfl) (K.OW.q rfl (K.QR.k (v := .bool false) (by kernel_rfl)) ?_)
          refine ⟨.inl (hS.pick [11, 16, 18]), ?_⟩
          refine K.DW.q 7 (by kernel_rfl) rfl rfl (by kernel_rfl) (by kernel_rfl) (fun w hS => K.QR.ldN [.slice a1_24 ((runT ⟨qa, sa, ma⟩ [(⟨ka, ya, va⟩ : OpM), (⟨kb, yb, vb⟩ : OpM)]).1.q.length) c1_25, .slice a2_26 ((runT ⟨qa, sa, ma⟩ [(⟨ka, ya, va⟩ : OpM), (⟨kb, yb, vb⟩ : OpM)]).1.s.length) c2_27, .slice a3_28 ((runT ⟨qa, sa, ma⟩ [(⟨ka, ya, va⟩ : OpM), (⟨kb, yb, vb⟩ : OpM)]).1.m.length) c3_29] rfl rfl (by kernel_rfl) (by kernel_rfl) (K.cells (K.cl ((hS.blk 0 rfl hg_44).cell rfl) (K.cl ((hS.blk 0 rfl hg_44).cell rfl) (K.cl ((hS.blk 0 rfl hg_44).cell rfl) K.cl0))))) (hS.pick [11, 16, 18]) ?_
          refine K.DW.l 8 rfl (by kernel_rfl) (by kernel_rfl) (K.OW.q rfl (K.QR.ldN [.slice a1_48 ((runT ⟨qa, sa, ma⟩ [(⟨kb, yb, vb⟩ : OpM), (⟨ka, ya, va⟩ : OpM)]).1.q.length) c1_49, .slice a2_50 ((runT ⟨qa, sa, ma⟩ [(⟨kb, yb, vb⟩ : OpM), (⟨ka, ya, va⟩ : OpM)]).1.s.length) c2_51, .slice a3_52 ((runT ⟨qa, sa, ma⟩ [(⟨kb, yb, vb⟩ : OpM), (⟨ka, ya, va⟩ : OpM)]).1.m.length) c3_53] rfl rfl (by kernel_rfl) (by kernel_rfl) (K.cells (K.cl ((hS.blk 5 rfl hg_68).cell rfl) (K.cl ((hS.blk 5 rfl hg_68).cell rfl) (K.cl ((hS.blk 5 rfl hg_68).cell rfl) K.cl0))))) ?_)
          refine ⟨.inl (hS.pick [11, 16, 18]), ?_⟩
          refine K.DW.l 9 rfl (by kernel_rfl) (by kernel_rfl) (K.OW.kcall hS [.agg #[.slice a1_24 ((runT ⟨qa, sa, ma⟩ [(⟨ka, ya, va⟩ : OpM), (⟨kb, yb, vb⟩ : OpM)]).1.q.length) c1_25, .slice a2_26 ((runT ⟨qa, sa, ma⟩ [(⟨ka, ya, va⟩ : OpM), (⟨kb, yb, vb⟩ : OpM)]).1.s.length) c2_27, .slice a3_28 ((runT ⟨qa, sa, ma⟩ [(⟨ka, ya, va⟩ : OpM), (⟨kb, yb, vb⟩ : OpM)]).1.m.length) c3_29], .agg #[.slice a1_48 ((runT ⟨qa, sa, ma⟩ [(⟨kb, yb, vb⟩ : OpM), (⟨ka, ya, va⟩ : OpM)]).1.q.length) c1_49, .slice a2_50 ((runT ⟨qa, sa, ma⟩ [(⟨kb, yb, vb⟩ : OpM), (⟨ka, ya, va⟩ : OpM)]).1.s.length) c2_51, .slice a3_52 ((runT ⟨qa, sa, ma⟩ [(⟨kb, yb, vb⟩ : OpM), (⟨ka, ya, va⟩ : OpM)]).1.m.length) c3_53]] (lsame8_ok _ _ _ _ _ _ _ _ _ _ _ _ ((runT ⟨qa, sa, ma⟩ [(⟨ka, ya, va⟩ : OpM), (⟨kb, yb, vb⟩ : OpM)]).1.q) ((runT ⟨qa, sa, ma⟩ [(⟨ka, ya, va⟩ : OpM), (⟨kb, yb, vb⟩ : OpM)]).1.s) ((runT ⟨qa, sa, ma⟩ [(⟨kb, yb, vb⟩ : OpM), (⟨ka, ya, va⟩ : OpM)]).1.q) ((runT ⟨qa, sa, ma⟩ [(⟨kb, yb, vb⟩ : OpM), (⟨ka, ya, va⟩ : OpM)]).1.s) ((runT ⟨qa, sa, ma⟩ [(⟨ka, ya, va⟩ : OpM), (⟨kb, yb, vb⟩ : OpM)]).1.m) ((runT ⟨qa, sa, ma⟩ [(⟨kb, yb, vb⟩ : OpM), (⟨ka, ya, va⟩ : OpM)]).1.m) _ (by omega) (by omega) (by omega) (x1_36 _ (hS.pick [12])) (x2_37 _ (hS.pick [13])) (x3_38 _ (hS.pick [14])) (x1_60 _ (hS.pick [6])) (x2_61 _ (hS.pick [7])) (x3_62 _ (hS.pick [8]))) ?_)
          rintro _ w ⟨rfl, c_106⟩
          replace hS := hS.no c_106
          have hb_107 : decide ((runT ⟨qa, sa, ma⟩ [(⟨ka, ya, va⟩ : OpM), (⟨kb, yb, vb⟩ : OpM)]).1.q = (runT ⟨qa, sa, ma⟩ [(⟨kb, yb, vb⟩ : OpM), (⟨ka, ya, va⟩ : OpM)]).1.q ∧ (runT ⟨qa, sa, ma⟩ [(⟨ka, ya, va⟩ : OpM), (⟨kb, yb, vb⟩ : OpM)]).1.s = (runT ⟨qa, sa, ma⟩ [(⟨kb, yb, vb⟩ : OpM), (⟨ka, ya, va⟩ : OpM)]).1.s ∧ (runT ⟨qa, sa, ma⟩ [(⟨ka, ya, va⟩ : OpM), (⟨kb, yb, vb⟩ : OpM)]).1.m = (runT ⟨qa, sa, ma⟩ [(⟨kb, yb, vb⟩ : OpM), (⟨ka, ya, va⟩ : OpM)]).1.m) = true := by have ht := turns (S := (⟨qa, sa, ma⟩ : StM)) (a := (⟨ka, ya, va⟩ : OpM)) (b := (⟨kb, yb, vb⟩ : OpM)) hr1 hr2 h_104; exact decide_eq_true ⟨congrArg StM.q ht.1, congrArg StM.s ht.1, congrArg StM.m ht.1⟩
          rw [hb_107]
          refine ⟨.inl (hS.pick [11, 16, 18]), ?_⟩
          refine K.DW.l 10 rfl (by kernel_rfl) (by kernel_rfl) (K.OW.q rfl (K.QR.k (v := .bool true) (by kernel_rfl)) ?_)
          refine ⟨.inl (hS.pick [11, 16, 18]), ?_⟩
          refine K.DW.q 11 (by kernel_rfl) rfl rfl (by kernel_rfl) (by kernel_rfl) (fun w hS => K.QR.k (v := .slice (some ⟨b_99, 0, none⟩) ((runT ⟨qa, sa, ma⟩ [(⟨ka, ya, va⟩ : OpM), (⟨kb, yb, vb⟩ : OpM)]).2.length) c_31) (by kernel_rfl)) (hS.pick [11, 16, 18]) ?_
          refine K.DW.q 12 (by kernel_rfl) rfl rfl (by kernel_rfl) (by kernel_rfl) (fun w hS => K.QR.ix (0 + 0 * 2) 2 rfl rfl rfl Try.underlying47 (by kernel_rfl) (by omega) (by first | (simp; done) | omega | (simp; omega))) (hS.pick [11, 16, 18]) ?_
          refine K.DW.q 13 (by kernel_rfl) rfl rfl (by kernel_rfl) (by kernel_rfl) (fun w hS => K.QR.ldN [.int .i64 ((((runT ⟨qa, sa, ma⟩ [(⟨ka, ya, va⟩ : OpM), (⟨kb, yb, vb⟩ : OpM)]).2).getD 0 ((0, 0) : Int × Int)).1), .int .u32 ((((runT ⟨qa, sa, ma⟩ [(⟨ka, ya, va⟩ : OpM), (⟨kb, yb, vb⟩ : OpM)]).2).getD 0 ((0, 0) : Int × Int)).2)] rfl rfl (by kernel_rfl) (by kernel_rfl) (K.cells (K.cl ((K.Own.rowE ((0, 0) : Int × Int) (hS.ownr 1 rfl o_39) rfl (fun _ => rfl)).ld 0 (by omega) 0 _ rfl) (K.cl ((K.Own.rowE ((0, 0) : Int × Int) (hS.ownr 1 rfl o_39) rfl (fun _ => rfl)).ld 0 (by omega) 1 _ rfl) K.cl0)))) (hS.pick [11, 16, 18]) ?_
          refine K.DW.l 14 rfl (by kernel_rfl) (by kernel_rfl) (K.OW.q rfl (K.QR.k (v := .slice (some ⟨b_101, 0, none⟩) ((runT ⟨qa, sa, ma⟩ [(⟨kb, yb, vb⟩ : OpM), (⟨ka, ya, va⟩ : OpM)]).2.length) c_55) (by kernel_rfl)) ?_)
          refine ⟨.inl (hS.pick [11, 16, 18]), ?_⟩
          refine K.DW.l 15 rfl (by kernel_rfl) (by kernel_rfl) (K.OW.q rfl (K.QR.ix (0 + 1 * 2) 2 rfl rfl rfl Try.underlying47 (by kernel_rfl) (by omega) (by first | (simp; done) | omega | (simp; omega))) ?_)
          refine ⟨.inl (hS.pick [11, 16, 18]), ?_⟩
          refine K.DW.l 16 rfl (by kernel_rfl) (by kernel_rfl) (K.OW.q rfl (K.QR.ldN [.int .i64 ((((runT ⟨qa, sa, ma⟩ [(⟨kb, yb, vb⟩ : OpM), (⟨ka, ya, va⟩ : OpM)]).2).getD 1 ((0, 0) : Int × Int)).1), .int .u32 ((((runT ⟨qa, sa, ma⟩ [(⟨kb, yb, vb⟩ : OpM), (⟨ka, ya, va⟩ : OpM)]).2).getD 1 ((0, 0) : Int × Int)).2)] rfl rfl (by kernel_rfl) (by kernel_rfl) (K.cells (K.cl ((K.Own.rowE ((0, 0) : Int × Int) (hS.ownr 10 rfl o_63) rfl (fun _ => rfl)).ld 1 (by omega) 0 _ rfl) (K.cl ((K.Own.rowE ((0, 0) : Int × Int) (hS.ownr 10 rfl o_63) rfl (fun _ => rfl)).ld 1 (by omega) 1 _ rfl) K.cl0)))) ?_)
          refine ⟨.inl (hS.pick [11, 16, 18]), ?_⟩
          refine K.DW.l 17 rfl (by kernel_rfl) (by kernel_rfl) (K.OW.q rfl (K.QR.eqS (by kernel_rfl) rfl rfl rfl (eqRes_t (by have ht := turns (S := (⟨qa, sa, ma⟩ : StM)) (a := (⟨ka, ya, va⟩ : OpM)) (b := (⟨kb, yb, vb⟩ : OpM)) hr1 hr2 h_104; exact ⟨congrArg Prod.fst ht.2.1, congrArg Prod.snd ht.2.1⟩))) ?_)
          refine ⟨.inl (hS.pick [11, 16, 18]), ?_⟩
          refine K.DW.l 18 rfl (by kernel_rfl) (by kernel_rfl) (K.OW.q rfl (K.QR.k (v := .bool true) (by kernel_rfl)) ?_)
          refine ⟨.inl (hS.pick [11, 16, 18]), ?_⟩
          refine K.DW.l 19 rfl (by kernel_rfl) (by kernel_rfl) (K.OW.q rfl (K.QR.k (v := .bool true) (by kernel_rfl)) ?_)
          refine ⟨.inl (hS.pick [11, 16, 18]), ?_⟩
          refine K.DW.q 20 (by kernel_rfl) rfl rfl (by kernel_rfl) (by kernel_rfl) (fun w hS => K.QR.k (v := .slice (some ⟨b_99, 0, none⟩) ((runT ⟨qa, sa, ma⟩ [(⟨ka, ya, va⟩ : OpM), (⟨kb, yb, vb⟩ : OpM)]).2.length) c_31) (by kernel_rfl)) (hS.pick [11, 16, 18]) ?_
          refine K.DW.q 21 (by kernel_rfl) rfl rfl (by kernel_rfl) (by kernel_rfl) (fun w hS => K.QR.ix (0 + 1 * 2) 2 rfl rfl rfl Try.underlying47 (by kernel_rfl) (by omega) (by first | (simp; done) | omega | (simp; omega))) (hS.pick [11, 16, 18]) ?_
          refine K.DW.q 22 (by kernel_rfl) rfl rfl (by kernel_rfl) (by kernel_rfl) (fun w hS => K.QR.ldN [.int .i64 ((((runT ⟨qa, sa, ma⟩ [(⟨ka, ya, va⟩ : OpM), (⟨kb, yb, vb⟩ : OpM)]).2).getD 1 ((0, 0) : Int × Int)).1), .int .u32 ((((runT ⟨qa, sa, ma⟩ [(⟨ka, ya, va⟩ : OpM), (⟨kb, yb, vb⟩ : OpM)]).2).getD 1 ((0, 0) : Int × Int)).2)] rfl rfl (by kernel_rfl) (by kernel_rfl) (K.cells (K.cl ((K.Own.rowE ((0, 0) : Int × Int) (hS.ownr 1 rfl o_39) rfl (fun _ => rfl)).ld 1 (by omega) 0 _ rfl) (K.cl ((K.Own.rowE ((0, 0) : Int × Int) (hS.ownr 1 rfl o_39) rfl (fun _ => rfl)).ld 1 (by omega) 1 _ rfl) K.cl0)))) (hS.pick [11, 16, 18]) ?_
          refine K.DW.l 23 rfl (by kernel_rfl) (by kernel_rfl) (K.OW.q rfl (K.QR.k (v := .slice (some ⟨b_101, 0, none⟩) ((runT ⟨qa, sa, ma⟩ [(⟨kb, yb, vb⟩ : OpM), (⟨ka, ya, va⟩ : OpM)]).2.length) c_55) (by kernel_rfl)) ?_)
          refine ⟨.inl (hS.pick [11, 16, 18]), ?_⟩
          refine K.DW.l 24 rfl (by kernel_rfl) (by kernel_rfl) (K.OW.q rfl (K.QR.ix (0 + 0 * 2) 2 rfl rfl rfl Try.underlying47 (by kernel_rfl) (by omega) (by first | (simp; done) | omega | (simp; omega))) ?_)
          refine ⟨.inl (hS.pick [11, 16, 18]), ?_⟩
          refine K.DW.l 25 rfl (by kernel_rfl) (by kernel_rfl) (K.OW.q rfl (K.QR.ldN [.int .i64 ((((runT ⟨qa, sa, ma⟩ [(⟨kb, yb, vb⟩ : OpM), (⟨ka, ya, va⟩ : OpM)]).2).getD 0 ((0, 0) : Int × Int)).1), .int .u32 ((((runT ⟨qa, sa, ma⟩ [(⟨kb, yb, vb⟩ : OpM), (⟨ka, ya, va⟩ : OpM)]).2).getD 0 ((0, 0) : Int × Int)).2)] rfl rfl (by kernel_rfl) (by kernel_rfl) (K.cells (K.cl ((K.Own.rowE ((0, 0) : Int × Int) (hS.ownr 10 rfl o_63) rfl (fun _ => rfl)).ld 0 (by omega) 0 _ rfl) (K.cl ((K.Own.rowE ((0, 0) : Int × Int) (hS.ownr 10 rfl o_63) rfl (fun _ => rfl)).ld 0 (by omega) 1 _ rfl) K.cl0)))) ?_)
          refine ⟨.inl (hS.pick [11, 16, 18]), ?_⟩
          refine K.DW.l 26 rfl (by kernel_rfl) (by kernel_rfl) (K.OW.q rfl (K.QR.eqS (by kernel_rfl) rfl rfl rfl (eqRes_t (by have ht := turns (S := (⟨qa, sa, ma⟩ : StM)) (a := (⟨ka, ya, va⟩ : OpM)) (b := (⟨kb, yb, vb⟩ : OpM)) hr1 hr2 h_104; exact ⟨congrArg Prod.fst ht.2.2, congrArg Prod.snd ht.2.2⟩))) ?_)
          refine ⟨.inl (hS.pick [11, 16, 18]), ?_⟩
          refine K.DW.l 27 rfl (by kernel_rfl) (by kernel_rfl) (K.OW.q rfl (K.QR.k (v := .bool true) (by kernel_rfl)) ?_)
          refine ⟨.inl (hS.pick [11, 16, 18]), ?_⟩
          refine K.DW.l 28 rfl (by kernel_rfl) (by kernel_rfl) (K.OW.q rfl (K.QR.k (v := .bool true) (by kernel_rfl)) ?_)
          refine ⟨.inl (hS.pick [11, 16, 18]), ?_⟩
          refine K.DW.l 29 rfl (by kernel_rfl) rfl (K.OW.q rfl (K.QR.k (v := .bool true) (by kernel_rfl)) ?_)
          refine ⟨.inl (hS.pick [11, 16, 18]), ?_⟩
          refine K.DW.l 30 rfl (by kernel_rfl) rfl (K.OW.q rfl (K.QR.k (v := .bool true) (by kernel_rfl)) ?_)
          refine ⟨.inl (hS.pick [11, 16, 18]), ?_⟩
          refine K.DW.done (by kernel_rfl) ?_
          refine K.thn_normal ?_
          refine K.KW.ret ?_
          refine ⟨.inr rfl, rfl, (.bool true), K.res1 rfl rfl, [], ?_, hS.pick [20]⟩
          exact rfl
        ·
          replace hS : K.Sat w0 [g_95, g_93, g1_75, g2_76, g3_77, g_67, g1_56, g2_57, g3_58, g_46, gr_59, g_43, g1_32, g2_33, g3_34, g_22, gr_35, g_8, g_5, g_2, fr] w := hS
          refine ⟨.inl (hS.pick [11, 16, 18]), ?_⟩
          refine K.DW.l 5 rfl (by kernel_rfl) (by kernel_rfl) (K.OW.q rfl (K.QR.k (v := .bool true) (by kernel_rfl)) ?_)
          refine ⟨.inl (hS.pick [11, 16, 18]), ?_⟩
          refine K.DW.l 6 rfl (by kernel_rfl) (by kernel_rfl) (K.OW.q rfl (K.QR.k (v := .bool true) (by kernel_rfl)) ?_)
          refine ⟨.inl (hS.pick [11, 16, 18]), ?_⟩
          refine K.DW.skip 7 (by kernel_rfl) rfl rfl (by kernel_rfl) (by kernel_rfl) (hS.pick [11, 16, 18]) ?_
          refine K.DW.skip 8 (by kernel_rfl) rfl rfl (by kernel_rfl) (by kernel_rfl) (hS.pick [11, 16, 18]) ?_
          refine K.DW.skip 9 (by kernel_rfl) rfl rfl (by kernel_rfl) (by kernel_rfl) (hS.pick [11, 16, 18]) ?_
          refine K.DW.skip 10 (by kernel_rfl) rfl rfl (by kernel_rfl) (by kernel_rfl) (hS.pick [11, 16, 18]) ?_
          refine K.DW.skip 11 (by kernel_rfl) rfl rfl (by kernel_rfl) (by kernel_rfl) (hS.pick [11, 16, 18]) ?_
          refine K.DW.skip 12 (by kernel_rfl) rfl rfl (by kernel_rfl) (by kernel_rfl) (hS.pick [11, 16, 18]) ?_
          refine K.DW.skip 13 (by kernel_rfl) rfl rfl (by kernel_rfl) (by kernel_rfl) (hS.pick [11, 16, 18]) ?_
          refine K.DW.skip 14 (by kernel_rfl) rfl rfl (by kernel_rfl) (by kernel_rfl) (hS.pick [11, 16, 18]) ?_
          refine K.DW.skip 15 (by kernel_rfl) rfl rfl (by kernel_rfl) (by kernel_rfl) (hS.pick [11, 16, 18]) ?_
          refine K.DW.skip 16 (by kernel_rfl) rfl rfl (by kernel_rfl) (by kernel_rfl) (hS.pick [11, 16, 18]) ?_
          refine K.DW.skip 17 (by kernel_rfl) rfl rfl (by kernel_rfl) (by kernel_rfl) (hS.pick [11, 16, 18]) ?_
          refine K.DW.skip 18 (by kernel_rfl) rfl rfl (by kernel_rfl) (by kernel_rfl) (hS.pick [11, 16, 18]) ?_
          refine K.DW.skip 19 (by kernel_rfl) rfl rfl (by kernel_rfl) (by kernel_rfl) (hS.pick [11, 16, 18]) ?_
          refine K.DW.skip 20 (by kernel_rfl) rfl rfl (by kernel_rfl) (by kernel_rfl) (hS.pick [11, 16, 18]) ?_
          refine K.DW.skip 21 (by kernel_rfl) rfl rfl (by kernel_rfl) (by kernel_rfl) (hS.pick [11, 16, 18]) ?_
          refine K.DW.skip 22 (by kernel_rfl) rfl rfl (by kernel_rfl) (by kernel_rfl) (hS.pick [11, 16, 18]) ?_
          refine K.DW.skip 23 (by kernel_rfl) rfl rfl (by kernel_rfl) (by kernel_rfl) (hS.pick [11, 16, 18]) ?_
          refine K.DW.skip 24 (by kernel_rfl) rfl rfl (by kernel_rfl) (by kernel_rfl) (hS.pick [11, 16, 18]) ?_
          refine K.DW.skip 25 (by kernel_rfl) rfl rfl (by kernel_rfl) (by kernel_rfl) (hS.pick [11, 16, 18]) ?_
          refine K.DW.skip 26 (by kernel_rfl) rfl rfl (by kernel_rfl) (by kernel_rfl) (hS.pick [11, 16, 18]) ?_
          refine K.DW.skip 27 (by kernel_rfl) rfl rfl (by kernel_rfl) (by kernel_rfl) (hS.pick [11, 16, 18]) ?_
          refine K.DW.l 28 rfl (by kernel_rfl) (by kernel_rfl) (K.OW.q rfl (K.QR.k (v := .bool true) (by kernel_rfl)) ?_)
          refine ⟨.inl (hS.pick [11, 16, 18]), ?_⟩
          refine K.DW.l 29 rfl (by kernel_rfl) rfl (K.OW.q rfl (K.QR.k (v := .bool true) (by kernel_rfl)) ?_)
          refine ⟨.inl (hS.pick [11, 16, 18]), ?_⟩
          refine K.DW.l 30 rfl (by kernel_rfl) rfl (K.OW.q rfl (K.QR.k (v := .bool true) (by kernel_rfl)) ?_)
          refine ⟨.inl (hS.pick [11, 16, 18]), ?_⟩
          refine K.DW.done (by kernel_rfl) ?_
          refine K.thn_normal ?_
          refine K.KW.ret ?_
          refine ⟨.inr rfl, rfl, (.bool true), K.res1 rfl rfl, [], ?_, hS.pick [20]⟩
          exact rfl
      ·
        refine K.RW.qs [.bool true] (by kernel_rfl) ?_
        refine K.RW.q rfl (by kernel_rfl) (K.QR.ldN [.slice a1_69 ((applyT ⟨qa, sa, ma⟩ ka ya va).1.q.length) c1_70, .slice a2_71 ((applyT ⟨qa, sa, ma⟩ ka ya va).1.s.length) c2_72, .slice a3_73 ((applyT ⟨qa, sa, ma⟩ ka ya va).1.m.length) c3_74] rfl rfl (by kernel_rfl) (by kernel_rfl) (K.cells (K.cl ((hS.blk 1 rfl hg_94).cell rfl) (K.cl ((hS.blk 1 rfl hg_94).cell rfl) (K.cl ((hS.blk 1 rfl hg_94).cell rfl) K.cl0))))) ?_
        refine K.RW.q rfl (by kernel_rfl) (K.QR.ldN [.slice q qa.length cq, .slice s sa.length cs, .slice m ma.length cm] rfl rfl (by kernel_rfl) (by kernel_rfl) (K.cells (K.cl ((hS.blk 19 rfl hg_3).cell rfl) (K.cl ((hS.blk 19 rfl hg_3).cell rfl) (K.cl ((hS.blk 19 rfl hg_3).cell rfl) K.cl0))))) ?_
        refine K.RW.l (by kernel_rfl) (K.OW.kcall hS [.agg #[.slice a1_69 ((applyT ⟨qa, sa, ma⟩ ka ya va).1.q.length) c1_70, .slice a2_71 ((applyT ⟨qa, sa, ma⟩ ka ya va).1.s.length) c2_72, .slice a3_73 ((applyT ⟨qa, sa, ma⟩ ka ya va).1.m.length) c3_74], .agg #[.slice q qa.length cq, .slice s sa.length cs, .slice m ma.length cm]] (lsame8_ok _ _ _ _ _ _ _ _ _ _ _ _ ((applyT ⟨qa, sa, ma⟩ ka ya va).1.q) ((applyT ⟨qa, sa, ma⟩ ka ya va).1.s) qa sa ((applyT ⟨qa, sa, ma⟩ ka ya va).1.m) ma _ (by omega) (by omega) (by omega) (x1_78 _ (hS.pick [2])) (x2_79 _ (hS.pick [3])) (x3_80 _ (hS.pick [4])) (x1.no hS.chg) (x2.no hS.chg) (x3.no hS.chg)) ?_)
        rintro _ w ⟨rfl, c_108⟩
        replace hS := hS.no c_108
        have hb_109 : decide ((applyT ⟨qa, sa, ma⟩ ka ya va).1.q = qa ∧ (applyT ⟨qa, sa, ma⟩ ka ya va).1.s = sa ∧ (applyT ⟨qa, sa, ma⟩ ka ya va).1.m = ma) = true := decide_eq_true (by rw [looks_id hr1 hr2 (of_decide_eq_true (by assumption))]; exact ⟨rfl, rfl, rfl⟩)
        rw [hb_109]
        refine K.RW.qs [.bool false, .bool false, .bool false] (by kernel_rfl) ?_
        refine K.RW.nil ?_
        refine K.thn_normal ?_
        refine K.KW.ifF rfl ?_
        refine K.KW.skip ?_
        refine K.thn_normal ?_
        refine K.KW.seq ?_
        -- 8 :109
        obtain ⟨b_110, rfl⟩ := o_39.some_ (by have := o_39.le; omega)
        obtain ⟨b_112, rfl⟩ := o_63.some_ (by have := o_63.le; omega)
        refine K.KW.gdrawn [11, 16, 18] hS (by kernel_rfl) ?_
        clear hS; intro w hS
        refine K.DW.l 0 rfl (by kernel_rfl) rfl (K.OW.kcall hS [] (awake08_ok _) ?_)
        rintro _ w ⟨rfl, c_114⟩
        replace hS := hS.no c_114
        refine ⟨.inl (hS.pick [11, 16, 18]), ?_⟩
        refine K.DW.l 1 rfl (by kernel_rfl) rfl (K.OW.q rfl (K.QR.k (v := .bool true) (by kernel_rfl)) ?_)
        refine ⟨.inl (hS.pick [11, 16, 18]), ?_⟩
        refine K.DW.q 2 (by kernel_rfl) rfl rfl (by kernel_rfl) (by kernel_rfl) (fun w hS => K.QR.ldN [.int .i64 ka, .int .u32 ya, .int .u32 va] rfl rfl (by kernel_rfl) (by kernel_rfl) (K.cells (K.cl ((hS.blk 2 rfl hg_6).cell rfl) (K.cl ((hS.blk 2 rfl hg_6).cell rfl) (K.cl ((hS.blk 2 rfl hg_6).cell rfl) K.cl0))))) (hS.pick [11, 16, 18]) ?_
        refine K.DW.l 3 rfl (by kernel_rfl) (by kernel_rfl) (K.OW.q rfl (K.QR.ldN [.int .i64 kb, .int .u32 yb, .int .u32 vb] rfl rfl (by kernel_rfl) (by kernel_rfl) (K.cells (K.cl ((hS.blk 17 rfl hg_9).cell rfl) (K.cl ((hS.blk 17 rfl hg_9).cell rfl) (K.cl ((hS.blk 17 rfl hg_9).cell rfl) K.cl0))))) ?_)
        refine ⟨.inl (hS.pick [11, 16, 18]), ?_⟩
        refine K.DW.l 4 rfl (by kernel_rfl) (by kernel_rfl) (K.OW.gcall hS [] [0, 1, 2, 3, 4, 5, 6, 7, 8, 9, 10, 11, 12, 13, 14, 15, 16, 17, 18, 19, 20] [.agg #[.int .i64 ka, .int .u32 ya, .int .u32 va], .agg #[.int .i64 kb, .int .u32 yb, .int .u32 vb]] (apart2_ok _ ka ya va kb yb vb) ?_)
        clear hS; rintro _ _ w ⟨rfl, (⟨rfl, h_115⟩ | ⟨rfl, h_116⟩)⟩ hS
        ·
          replace hS : K.Sat w0 [g_95, g_93, g1_75, g2_76, g3_77, g_67, g1_56, g2_57, g3_58, g_46, gr_59, g_43, g1_32, g2_33, g3_34, g_22, gr_35, g_8, g_5, g_2, fr] w := hS
          refine ⟨.inl (hS.pick [11, 16, 18]), ?_⟩
          refine K.DW.l 5 rfl (by kernel_rfl) (by kernel_rfl) (K.OW.q rfl (K.QR.k (v := .bool false) (by kernel_rfl)) ?_)
          refine ⟨.inl (hS.pick [11, 16, 18]), ?_⟩
          refine K.DW.l 6 rfl (by kernel_rfl) (by kernel_rfl) (K.OW.q rfl (K.QR.k (v := .bool false) (by kernel_rfl)) ?_)
          refine ⟨.inl (hS.pick [11, 16, 18]), ?_⟩
          refine K.DW.q 7 (by kernel_rfl) rfl rfl (by kernel_rfl) (by kernel_rfl) (fun w hS => K.QR.ldN [.slice a1_24 ((runT ⟨qa, sa, ma⟩ [(⟨ka, ya, va⟩ : OpM), (⟨kb, yb, vb⟩ : OpM)]).1.q.length) c1_25, .slice a2_26 ((runT ⟨qa, sa, ma⟩ [(⟨ka, ya, va⟩ : OpM), (⟨kb, yb, vb⟩ : OpM)]).1.s.length) c2_27, .slice a3_28 ((runT ⟨qa, sa, ma⟩ [(⟨ka, ya, va⟩ : OpM), (⟨kb, yb, vb⟩ : OpM)]).1.m.length) c3_29] rfl rfl (by kernel_rfl) (by kernel_rfl) (K.cells (K.cl ((hS.blk 0 rfl hg_44).cell rfl) (K.cl ((hS.blk 0 rfl hg_44).cell rfl) (K.cl ((hS.blk 0 rfl hg_44).cell rfl) K.cl0))))) (hS.pick [11, 16, 18]) ?_
          refine K.DW.l 8 rfl (by kernel_rfl) (by kernel_rfl) (K.OW.q rfl (K.QR.ldN [.slice a1_48 ((runT ⟨qa, sa, ma⟩ [(⟨kb, yb, vb⟩ : OpM), (⟨ka, ya, va⟩ : OpM)]).1.q.length) c1_49, .slice a2_50 ((runT ⟨qa, sa, ma⟩ [(⟨kb, yb, vb⟩ : OpM), (⟨ka, ya, va⟩ : OpM)]).1.s.length) c2_51, .slice a3_52 ((runT ⟨qa, sa, ma⟩ [(⟨kb, yb, vb⟩ : OpM), (⟨ka, ya, va⟩ : OpM)]).1.m.length) c3_53] rfl rfl (by kernel_rfl) (by kernel_rfl) (K.cells (K.cl ((hS.blk 5 rfl hg_68).cell rfl) (K.cl ((hS.blk 5 rfl hg_68).cell rfl) (K.cl ((hS.blk 5 rfl hg_68).cell rfl) K.cl0))))) ?_)
          refine ⟨.inl (hS.pick [11, 16, 18]), ?_⟩
          refine K.DW.l 9 rfl (by kernel_rfl) (by kernel_rfl) (K.OW.kcall hS [.agg #[.slice a1_24 ((runT ⟨qa, sa, ma⟩ [(⟨ka, ya, va⟩ : OpM), (⟨kb, yb, vb⟩ : OpM)]).1.q.length) c1_25, .slice a2_26 ((runT ⟨qa, sa, ma⟩ [(⟨ka, ya, va⟩ : OpM), (⟨kb, yb, vb⟩ : OpM)]).1.s.length) c2_27, .slice a3_28 ((runT ⟨qa, sa, ma⟩ [(⟨ka, ya, va⟩ : OpM), (⟨kb, yb, vb⟩ : OpM)]).1.m.length) c3_29], .agg #[.slice a1_48 ((runT ⟨qa, sa, ma⟩ [(⟨kb, yb, vb⟩ : OpM), (⟨ka, ya, va⟩ : OpM)]).1.q.length) c1_49, .slice a2_50 ((runT ⟨qa, sa, ma⟩ [(⟨kb, yb, vb⟩ : OpM), (⟨ka, ya, va⟩ : OpM)]).1.s.length) c2_51, .slice a3_52 ((runT ⟨qa, sa, ma⟩ [(⟨kb, yb, vb⟩ : OpM), (⟨ka, ya, va⟩ : OpM)]).1.m.length) c3_53]] (lsame8_ok _ _ _ _ _ _ _ _ _ _ _ _ ((runT ⟨qa, sa, ma⟩ [(⟨ka, ya, va⟩ : OpM), (⟨kb, yb, vb⟩ : OpM)]).1.q) ((runT ⟨qa, sa, ma⟩ [(⟨ka, ya, va⟩ : OpM), (⟨kb, yb, vb⟩ : OpM)]).1.s) ((runT ⟨qa, sa, ma⟩ [(⟨kb, yb, vb⟩ : OpM), (⟨ka, ya, va⟩ : OpM)]).1.q) ((runT ⟨qa, sa, ma⟩ [(⟨kb, yb, vb⟩ : OpM), (⟨ka, ya, va⟩ : OpM)]).1.s) ((runT ⟨qa, sa, ma⟩ [(⟨ka, ya, va⟩ : OpM), (⟨kb, yb, vb⟩ : OpM)]).1.m) ((runT ⟨qa, sa, ma⟩ [(⟨kb, yb, vb⟩ : OpM), (⟨ka, ya, va⟩ : OpM)]).1.m) _ (by omega) (by omega) (by omega) (x1_36 _ (hS.pick [12])) (x2_37 _ (hS.pick [13])) (x3_38 _ (hS.pick [14])) (x1_60 _ (hS.pick [6])) (x2_61 _ (hS.pick [7])) (x3_62 _ (hS.pick [8]))) ?_)
          rintro _ w ⟨rfl, c_117⟩
          replace hS := hS.no c_117
          have hb_118 : decide ((runT ⟨qa, sa, ma⟩ [(⟨ka, ya, va⟩ : OpM), (⟨kb, yb, vb⟩ : OpM)]).1.q = (runT ⟨qa, sa, ma⟩ [(⟨kb, yb, vb⟩ : OpM), (⟨ka, ya, va⟩ : OpM)]).1.q ∧ (runT ⟨qa, sa, ma⟩ [(⟨ka, ya, va⟩ : OpM), (⟨kb, yb, vb⟩ : OpM)]).1.s = (runT ⟨qa, sa, ma⟩ [(⟨kb, yb, vb⟩ : OpM), (⟨ka, ya, va⟩ : OpM)]).1.s ∧ (runT ⟨qa, sa, ma⟩ [(⟨ka, ya, va⟩ : OpM), (⟨kb, yb, vb⟩ : OpM)]).1.m = (runT ⟨qa, sa, ma⟩ [(⟨kb, yb, vb⟩ : OpM), (⟨ka, ya, va⟩ : OpM)]).1.m) = true := by have ht := turns (S := (⟨qa, sa, ma⟩ : StM)) (a := (⟨ka, ya, va⟩ : OpM)) (b := (⟨kb, yb, vb⟩ : OpM)) hr1 hr2 h_115; exact decide_eq_true ⟨congrArg StM.q ht.1, congrArg StM.s ht.1, congrArg StM.m ht.1⟩
          rw [hb_118]
          refine ⟨.inl (hS.pick [11, 16, 18]), ?_⟩
          refine K.DW.l 10 rfl (by kernel_rfl) (by kernel_rfl) (K.OW.q rfl (K.QR.k (v := .bool true) (by kernel_rfl)) ?_)
          refine ⟨.inl (hS.pick [11, 16, 18]), ?_⟩
          refine K.DW.q 11 (by kernel_rfl) rfl rfl (by kernel_rfl) (by kernel_rfl) (fun w hS => K.QR.k (v := .slice (some ⟨b_110, 0, none⟩) ((runT ⟨qa, sa, ma⟩ [(⟨ka, ya, va⟩ : OpM), (⟨kb, yb, vb⟩ : OpM)]).2.length) c_31) (by kernel_rfl)) (hS.pick [11, 16, 18]) ?_
          refine K.DW.q 12 (by kernel_rfl) rfl rfl (by kernel_rfl) (by kernel_rfl) (fun w hS => K.QR.ix (0 + 0 * 2) 2 rfl rfl rfl Try.underlying47 (by kernel_rfl) (by omega) (by first | (simp; done) | omega | (simp; omega))) (hS.pick [11, 16, 18]) ?_
          refine K.DW.q 13 (by kernel_rfl) rfl rfl (by kernel_rfl) (by kernel_rfl) (fun w hS => K.QR.ldN [.int .i64 ((((runT ⟨qa, sa, ma⟩ [(⟨ka, ya, va⟩ : OpM), (⟨kb, yb, vb⟩ : OpM)]).2).getD 0 ((0, 0) : Int × Int)).1), .int .u32 ((((runT ⟨qa, sa, ma⟩ [(⟨ka, ya, va⟩ : OpM), (⟨kb, yb, vb⟩ : OpM)]).2).getD 0 ((0, 0) : Int × Int)).2)] rfl rfl (by kernel_rfl) (by kernel_rfl) (K.cells (K.cl ((K.Own.rowE ((0, 0) : Int × Int) (hS.ownr 1 rfl o_39) rfl (fun _ => rfl)).ld 0 (by omega) 0 _ rfl) (K.cl ((K.Own.rowE ((0, 0) : Int × Int) (hS.ownr 1 rfl o_39) rfl (fun _ => rfl)).ld 0 (by omega) 1 _ rfl) K.cl0)))) (hS.pick [11, 16, 18]) ?_
          refine K.DW.l 14 rfl (by kernel_rfl) (by kernel_rfl) (K.OW.q rfl (K.QR.k (v := .slice (some ⟨b_112, 0, none⟩) ((runT ⟨qa, sa, ma⟩ [(⟨kb, yb, vb⟩ : OpM), (⟨ka, ya, va⟩ : OpM)]).2.length) c_55) (by kernel_rfl)) ?_)
          refine ⟨.inl (hS.pick [11, 16, 18]), ?_⟩
          refine K.DW.l 15 rfl (by kernel_rfl) (by kernel_rfl) (K.OW.q rfl (K.QR.ix (0 + 1 * 2) 2 rfl rfl rfl Try.underlying47 (by kernel_rfl) (by omega) (by first | (simp; done) | omega | (simp; omega))) ?_)
          refine ⟨.inl (hS.pick [11, 16, 18]), ?_⟩
          refine K.DW.l 16 rfl (by kernel_rfl) (by kernel_rfl) (K.OW.q rfl (K.QR.ldN [.int .i64 ((((runT ⟨qa, sa, ma⟩ [(⟨kb, yb, vb⟩ : OpM), (⟨ka, ya, va⟩ : OpM)]).2).getD 1 ((0, 0) : Int × Int)).1), .int .u32 ((((runT ⟨qa, sa, ma⟩ [(⟨kb, yb, vb⟩ : OpM), (⟨ka, ya, va⟩ : OpM)]).2).getD 1 ((0, 0) : Int × Int)).2)] rfl rfl (by kernel_rfl) (by kernel_rfl) (K.cells (K.cl ((K.Own.rowE ((0, 0) : Int × Int) (hS.ownr 10 rfl o_63) rfl (fun _ => rfl)).ld 1 (by omega) 0 _ rfl) (K.cl ((K.Own.rowE ((0, 0) : Int × Int) (hS.ownr 10 rfl o_63) rfl (fun _ => rfl)).ld 1 (by omega) 1 _ rfl) K.cl0)))) ?_)
          refine ⟨.inl (hS.pick [11, 16, 18]), ?_⟩
          refine K.DW.l 17 rfl (by kernel_rfl) (by kernel_rfl) (K.OW.q rfl (K.QR.eqS (by kernel_rfl) rfl rfl rfl (eqRes_t (by have ht := turns (S := (⟨qa, sa, ma⟩ : StM)) (a := (⟨ka, ya, va⟩ : OpM)) (b := (⟨kb, yb, vb⟩ : OpM)) hr1 hr2 h_115; exact ⟨congrArg Prod.fst ht.2.1, congrArg Prod.snd ht.2.1⟩))) ?_)
          refine ⟨.inl (hS.pick [11, 16, 18]), ?_⟩
          refine K.DW.l 18 rfl (by kernel_rfl) (by kernel_rfl) (K.OW.q rfl (K.QR.k (v := .bool true) (by kernel_rfl)) ?_)
          refine ⟨.inl (hS.pick [11, 16, 18]), ?_⟩
          refine K.DW.l 19 rfl (by kernel_rfl) (by kernel_rfl) (K.OW.q rfl (K.QR.k (v := .bool true) (by kernel_rfl)) ?_)
          refine ⟨.inl (hS.pick [11, 16, 18]), ?_⟩
          refine K.DW.q 20 (by kernel_rfl) rfl rfl (by kernel_rfl) (by kernel_rfl) (fun w hS => K.QR.k (v := .slice (some ⟨b_110, 0, none⟩) ((runT ⟨qa, sa, ma⟩ [(⟨ka, ya, va⟩ : OpM), (⟨kb, yb, vb⟩ : OpM)]).2.length) c_31) (by kernel_rfl)) (hS.pick [11, 16, 18]) ?_
          refine K.DW.q 21 (by kernel_rfl) rfl rfl (by kernel_rfl) (by kernel_rfl) (fun w hS => K.QR.ix (0 + 1 * 2) 2 rfl rfl rfl Try.underlying47 (by kernel_rfl) (by omega) (by first | (simp; done) | omega | (simp; omega))) (hS.pick [11, 16, 18]) ?_
          refine K.DW.q 22 (by kernel_rfl) rfl rfl (by kernel_rfl) (by kernel_rfl) (fun w hS => K.QR.ldN [.int .i64 ((((runT ⟨qa, sa, ma⟩ [(⟨ka, ya, va⟩ : OpM), (⟨kb, yb, vb⟩ : OpM)]).2).getD 1 ((0, 0) : Int × Int)).1), .int .u32 ((((runT ⟨qa, sa, ma⟩ [(⟨ka, ya, va⟩ : OpM), (⟨kb, yb, vb⟩ : OpM)]).2).getD 1 ((0, 0) : Int × Int)).2)] rfl rfl (by kernel_rfl) (by kernel_rfl) (K.cells (K.cl ((K.Own.rowE ((0, 0) : Int × Int) (hS.ownr 1 rfl o_39) rfl (fun _ => rfl)).ld 1 (by omega) 0 _ rfl) (K.cl ((K.Own.rowE ((0, 0) : Int × Int) (hS.ownr 1 rfl o_39) rfl (fun _ => rfl)).ld 1 (by omega) 1 _ rfl) K.cl0)))) (hS.pick [11, 16, 18]) ?_
          refine K.DW.l 23 rfl (by kernel_rfl) (by kernel_rfl) (K.OW.q rfl (K.QR.k (v := .slice (some ⟨b_112, 0, none⟩) ((runT ⟨qa, sa, ma⟩ [(⟨kb, yb, vb⟩ : OpM), (⟨ka, ya, va⟩ : OpM)]).2.length) c_55) (by kernel_rfl)) ?_)
          refine ⟨.inl (hS.pick [11, 16, 18]), ?_⟩
          refine K.DW.l 24 rfl (by kernel_rfl) (by kernel_rfl) (K.OW.q rfl (K.QR.ix (0 + 0 * 2) 2 rfl rfl rfl Try.underlying47 (by kernel_rfl) (by omega) (by first | (simp; done) | omega | (simp; omega))) ?_)
          refine ⟨.inl (hS.pick [11, 16, 18]), ?_⟩
          refine K.DW.l 25 rfl (by kernel_rfl) (by kernel_rfl) (K.OW.q rfl (K.QR.ldN [.int .i64 ((((runT ⟨qa, sa, ma⟩ [(⟨kb, yb, vb⟩ : OpM), (⟨ka, ya, va⟩ : OpM)]).2).getD 0 ((0, 0) : Int × Int)).1), .int .u32 ((((runT ⟨qa, sa, ma⟩ [(⟨kb, yb, vb⟩ : OpM), (⟨ka, ya, va⟩ : OpM)]).2).getD 0 ((0, 0) : Int × Int)).2)] rfl rfl (by kernel_rfl) (by kernel_rfl) (K.cells (K.cl ((K.Own.rowE ((0, 0) : Int × Int) (hS.ownr 10 rfl o_63) rfl (fun _ => rfl)).ld 0 (by omega) 0 _ rfl) (K.cl ((K.Own.rowE ((0, 0) : Int × Int) (hS.ownr 10 rfl o_63) rfl (fun _ => rfl)).ld 0 (by omega) 1 _ rfl) K.cl0)))) ?_)
          refine ⟨.inl (hS.pick [11, 16, 18]), ?_⟩
          refine K.DW.l 26 rfl (by kernel_rfl) (by kernel_rfl) (K.OW.q rfl (K.QR.eqS (by kernel_rfl) rfl rfl rfl (eqRes_t (by have ht := turns (S := (⟨qa, sa, ma⟩ : StM)) (a := (⟨ka, ya, va⟩ : OpM)) (b := (⟨kb, yb, vb⟩ : OpM)) hr1 hr2 h_115; exact ⟨congrArg Prod.fst ht.2.2, congrArg Prod.snd ht.2.2⟩))) ?_)
          refine ⟨.inl (hS.pick [11, 16, 18]), ?_⟩
          refine K.DW.l 27 rfl (by kernel_rfl) (by kernel_rfl) (K.OW.q rfl (K.QR.k (v := .bool true) (by kernel_rfl)) ?_)
          refine ⟨.inl (hS.pick [11, 16, 18]), ?_⟩
          refine K.DW.l 28 rfl (by kernel_rfl) (by kernel_rfl) (K.OW.q rfl (K.QR.k (v := .bool true) (by kernel_rfl)) ?_)
          refine ⟨.inl (hS.pick [11, 16, 18]), ?_⟩
          refine K.DW.l 29 rfl (by kernel_rfl) rfl (K.OW.q rfl (K.QR.k (v := .bool true) (by kernel_rfl)) ?_)
          refine ⟨.inl (hS.pick [11, 16, 18]), ?_⟩
          refine K.DW.l 30 rfl (by kernel_rfl) rfl (K.OW.q rfl (K.QR.k (v := .bool true) (by kernel_rfl)) ?_)
          refine ⟨.inl (hS.pick [11, 16, 18]), ?_⟩
          refine K.DW.done (by kernel_rfl) ?_
          refine K.thn_normal ?_
          refine K.KW.ret ?_
          refine ⟨.inr rfl, rfl, (.bool true), K.res1 rfl rfl, [], ?_, hS.pick [20]⟩
          exact rfl
        ·
          replace hS : K.Sat w0 [g_95, g_93, g1_75, g2_76, g3_77, g_67, g1_56, g2_57, g3_58, g_46, gr_59, g_43, g1_32, g2_33, g3_34, g_22, gr_35, g_8, g_5, g_2, fr] w := hS
          refine ⟨.inl (hS.pick [11, 16, 18]), ?_⟩
          refine K.DW.l 5 rfl (by kernel_rfl) (by kernel_rfl) (K.OW.q rfl (K.QR.k (v := .bool true) (by kernel_rfl)) ?_)
          refine ⟨.inl (hS.pick [11, 16, 18]), ?_⟩
          refine K.DW.l 6 rfl (by kernel_rfl) (by kernel_rfl) (K.OW.q rfl (K.QR.k (v := .bool true) (by kernel_rfl)) ?_)
          refine ⟨.inl (hS.pick [11, 16, 18]), ?_⟩
          refine K.DW.skip 7 (by kernel_rfl) rfl rfl (by kernel_rfl) (by kernel_rfl) (hS.pick [11, 16, 18]) ?_
          refine K.DW.skip 8 (by kernel_rfl) rfl rfl (by kernel_rfl) (by kernel_rfl) (hS.pick [11, 16, 18]) ?_
          refine K.DW.skip 9 (by kernel_rfl) rfl rfl (by kernel_rfl) (by kernel_rfl) (hS.pick [11, 16, 18]) ?_
          refine K.DW.skip 10 (by kernel_rfl) rfl rfl (by kernel_rfl) (by kernel_rfl) (hS.pick [11, 16, 18]) ?_
          refine K.DW.skip 11 (by kernel_rfl) rfl rfl (by kernel_rfl) (by kernel_rfl) (hS.pick [11, 16, 18]) ?_
          refine K.DW.skip 12 (by kernel_rfl) rfl rfl (by kernel_rfl) (by kernel_rfl) (hS.pick [11, 16, 18]) ?_
          refine K.DW.skip 13 (by kernel_rfl) rfl rfl (by kernel_rfl) (by kernel_rfl) (hS.pick [11, 16, 18]) ?_
          refine K.DW.skip 14 (by kernel_rfl) rfl rfl (by kernel_rfl) (by kernel_rfl) (hS.pick [11, 16, 18]) ?_
          refine K.DW.skip 15 (by kernel_rfl) rfl rfl (by kernel_rfl) (by kernel_rfl) (hS.pick [11, 16, 18]) ?_
          refine K.DW.skip 16 (by kernel_rfl) rfl rfl (by kernel_rfl) (by kernel_rfl) (hS.pick [11, 16, 18]) ?_
          refine K.DW.skip 17 (by kernel_rfl) rfl rfl (by kernel_rfl) (by kernel_rfl) (hS.pick [11, 16, 18]) ?_
          refine K.DW.skip 18 (by kernel_rfl) rfl rfl (by kernel_rfl) (by kernel_rfl) (hS.pick [11, 16, 18]) ?_
          refine K.DW.skip 19 (by kernel_rfl) rfl rfl (by kernel_rfl) (by kernel_rfl) (hS.pick [11, 16, 18]) ?_
          refine K.DW.skip 20 (by kernel_rfl) rfl rfl (by kernel_rfl) (by kernel_rfl) (hS.pick [11, 16, 18]) ?_
          refine K.DW.skip 21 (by kernel_rfl) rfl rfl (by kernel_rfl) (by kernel_rfl) (hS.pick [11, 16, 18]) ?_
          refine K.DW.skip 22 (by kernel_rfl) rfl rfl (by kernel_rfl) (by kernel_rfl) (hS.pick [11, 16, 18]) ?_
          refine K.DW.skip 23 (by kernel_rfl) rfl rfl (by kernel_rfl) (by kernel_rfl) (hS.pick [11, 16, 18]) ?_
          refine K.DW.skip 24 (by kernel_rfl) rfl rfl (by kernel_rfl) (by kernel_rfl) (hS.pick [11, 16, 18]) ?_
          refine K.DW.skip 25 (by kernel_rfl) rfl rfl (by kernel_rfl) (by kernel_rfl) (hS.pick [11, 16, 18]) ?_
          refine K.DW.skip 26 (by kernel_rfl) rfl rfl (by kernel_rfl) (by kernel_rfl) (hS.pick [11, 16, 18]) ?_
          refine K.DW.skip 27 (by kernel_rfl) rfl rfl (by kernel_rfl) (by kernel_rfl) (hS.pick [11, 16, 18]) ?_
          refine K.DW.l 28 rfl (by kernel_rfl) (by kernel_rfl) (K.OW.q rfl (K.QR.k (v := .bool true) (by kernel_rfl)) ?_)
          refine ⟨.inl (hS.pick [11, 16, 18]), ?_⟩
          refine K.DW.l 29 rfl (by kernel_rfl) rfl (K.OW.q rfl (K.QR.k (v := .bool true) (by kernel_rfl)) ?_)
          refine ⟨.inl (hS.pick [11, 16, 18]), ?_⟩
          refine K.DW.l 30 rfl (by kernel_rfl) rfl (K.OW.q rfl (K.QR.k (v := .bool true) (by kernel_rfl)) ?_)
          refine ⟨.inl (hS.pick [11, 16, 18]), ?_⟩
          refine K.DW.done (by kernel_rfl) ?_
          refine K.thn_normal ?_
          refine K.KW.ret ?_
          refine ⟨.inr rfl, rfl, (.bool true), K.res1 rfl rfl, [], ?_, hS.pick [20]⟩
          exact rfl

end Go.Proofs.Ytgeihjiichdpbaa
