/- Contracts: slices.Concat, diff.Join, the reference of Join. -/
import Derived.Test.YtcmlompigmhddaaFjlaw
import Derived.Test.YtcmlompigmhddaaKq
namespace Go.Proofs.Ytcmlompigmhddaa
open Go.RowKit
set_option linter.unusedVariables false
attribute [local irreducible] K.KW K.RW K.DW K.OW K.QR K.KC

abbrev SC3 (a1 a2 a3 : Option Addr) (n1 n2 n3 c1 c2 c3 : Nat) : List Value := [.slice a1 n1 c1, .slice a2 n2 c2, .slice a3 n3 c3]

set_option maxHeartbeats 1000000 in
set_option maxRecDepth 100000 in
theorem growCh_ok (k : Nat) (w0 : World) (hm : k * 24 ≤ 140737488355328) :
    K.KC Try.prog 89 #[.slice none 0 0, .int .i64 ((k : Nat) : Int)] w0 (fun v w' => ∃ r c, v = .slice r 0 c ∧ K.Chg K.No w0 w' ∧ K.Own w' w0.heap.size 46 3 r 0 c (([]).flatMap chgC)) := by
  refine K.KC.mk (n := 27) Try.func89 rfl rfl [.slice none 0 0, .int .i64 ((k : Nat) : Int)] rfl rfl ?_
  refine K.KW.seq ?_
  -- region 0 slices.go:422
  refine K.KW.region ?_
  refine K.RW.q rfl rfl (K.QR.k (v := .slice none 0 0) (by kernel_rfl)) ?_
  refine K.RW.nil ?_
  refine K.thn_normal ?_
  refine K.KW.seq ?_
  refine K.KW.seq ?_
  -- region 1 slices.go:423
  refine K.KW.region ?_
  refine K.RW.q rfl rfl (K.QR.k (v := .int .i64 ((k : Nat) : Int)) (by kernel_rfl)) ?_
  refine K.RW.q rfl rfl (K.QR.nice (v := .bool (decide ((((k : Nat) : Int) : Int) < (0 : Int)))) (by kernel_rfl) (congrArg Value.bool (decide_eq_false (by omega)))) ?_
  refine K.RW.nil ?_
  refine K.thn_normal ?_
  refine K.KW.ifF rfl ?_
  refine K.KW.skip ?_
  refine K.thn_normal ?_
  refine K.KW.seq ?_
  refine K.KW.seq ?_
  -- region 3 slices.go:426
  refine K.KW.region ?_
  refine K.RW.q rfl rfl (K.QR.k (v := .int .i64 ((k : Nat) : Int)) (by kernel_rfl)) ?_
  refine K.RW.q rfl rfl (K.QR.k (v := .slice none 0 0) (by kernel_rfl)) ?_
  refine K.RW.q rfl rfl (K.QR.cap (P := Try.prog) rfl rfl Try.underlying42) ?_
  refine K.RW.q rfl rfl (K.QR.k (v := .slice none 0 0) (by kernel_rfl)) ?_
  refine K.RW.q rfl rfl (K.QR.len (P := Try.prog) rfl rfl Try.underlying42) ?_
  refine K.RW.q rfl rfl (K.QR.k (v := .int .i64 0) (by kernel_rfl)) ?_
  refine K.RW.q rfl rfl (K.QR.n64 ((((k : Nat) : Int) : Int) - (0 : Int)) ((k : Nat) : Int) (by kernel_rfl) (by omega)) ?_
  refine K.RW.q rfl rfl (K.QR.k (v := .int .i64 ((k : Nat) : Int)) (by kernel_rfl)) ?_
  refine K.RW.nil ?_
  refine K.thn_normal ?_
  refine K.KW.seq ?_
  -- region 4 slices.go:426
  refine K.KW.region ?_
  refine K.RW.q rfl rfl (K.QR.k (v := .int .i64 ((k : Nat) : Int)) (by kernel_rfl)) ?_
  by_cases h_1 : (((k : Nat) : Int) : Int) > (0 : Int)
  ·  -- yes
    refine K.RW.q rfl rfl (K.QR.nice (v := .bool (decide ((((k : Nat) : Int) : Int) > (0 : Int)))) (by kernel_rfl) (congrArg Value.bool (decide_eq_true h_1))) ?_
    refine K.RW.nil ?_
    refine K.thn_normal ?_
    refine K.KW.ifT rfl ?_
    -- region 5 slices.go:428
    refine K.KW.region ?_
    refine K.RW.q rfl rfl (K.QR.k (v := .slice none 0 0) (by kernel_rfl)) ?_
    refine K.RW.q rfl rfl (K.QR.k (v := .slice none 0 0) (by kernel_rfl)) ?_
    refine K.RW.q rfl rfl (K.QR.cap (P := Try.prog) rfl rfl Try.underlying42) ?_
    refine K.RW.q rfl rfl (K.QR.slHi (size := 3) 0 rfl rfl rfl Try.underlying42 (by kernel_rfl) (by omega)) ?_
    refine K.RW.q rfl rfl (K.QR.k (v := .int .i64 ((k : Nat) : Int)) (by kernel_rfl)) ?_
    refine K.RW.l rfl (K.OW.zeros (P := Try.prog) (c := chgC) (z := .agg #[.int .i64 0, .int .u64 0, .int .u64 0]) (size := 3) (bytes := 24) (base := w0.heap.size) (⟨0, 0, 0⟩ : Chg3) rfl rfl rfl rfl Try.underlying42 Try.underlying3 (by kernel_rfl) rfl rfl (by decide) (by omega) (by unfold maxLen; omega) (by omega) (by omega) ?_) 
    intro a_2 cap_3 w_4 e_5 o_6
    have c_7 := e_5
    have z_8 := c_7.size
    have ln_9 : ((List.replicate k (⟨0, 0, 0⟩ : Chg3))).length = k := List.length_replicate
    refine K.RW.q rfl rfl (K.QR.k (v := .slice none 0 0) (by kernel_rfl)) ?_
    refine K.RW.q rfl rfl (K.QR.len (P := Try.prog) rfl rfl Try.underlying42) ?_
    have o_10 := K.Own.take0 o_6
    refine K.RW.q rfl rfl (K.QR.slHi (size := 3) 0 rfl rfl rfl Try.underlying42 (by kernel_rfl) (by omega)) ?_
    refine K.RW.q rfl rfl (K.QR.k (v := .slice a_2 0 cap_3) (by kernel_rfl)) ?_
    refine K.RW.nil ?_
    refine K.thn_normal ?_
    refine K.KW.seq ?_
    -- region 6 slices.go:430
    refine K.KW.region ?_
    refine K.RW.q rfl rfl (K.QR.k (v := .slice a_2 0 cap_3) (by kernel_rfl)) ?_
    refine K.RW.q rfl rfl (K.QR.k (v := .slice a_2 0 cap_3) (by kernel_rfl)) ?_
    refine K.RW.nil ?_
    refine K.thn_normal ?_
    refine K.KW.ret ?_
    refine ⟨.inr rfl, (.slice a_2 0 cap_3), K.res1 rfl rfl, ?_⟩
    exact ⟨_, _, rfl, c_7, o_10⟩
  ·  -- no
    refine K.RW.q rfl rfl (K.QR.nice (v := .bool (decide ((((k : Nat) : Int) : Int) > (0 : Int)))) (by kernel_rfl) (congrArg Value.bool (decide_eq_false h_1))) ?_
    refine K.RW.nil ?_
    refine K.thn_normal ?_
    refine K.KW.ifF rfl ?_
    refine K.KW.skip ?_
    refine K.thn_normal ?_
    refine K.KW.seq ?_
    -- region 6 slices.go:430
    refine K.KW.region ?_
    refine K.RW.q rfl rfl (K.QR.k (v := .slice none 0 0) (by kernel_rfl)) ?_
    refine K.RW.q rfl rfl (K.QR.k (v := .slice none 0 0) (by kernel_rfl)) ?_
    refine K.RW.nil ?_
    refine K.thn_normal ?_
    refine K.KW.ret ?_
    refine ⟨.inr rfl, (.slice none 0 0), K.res1 rfl rfl, ?_⟩
    exact ⟨_, _, rfl, (K.Chg.refl _), K.Own.nil _ _ _ _⟩

set_option maxHeartbeats 1000000 in
set_option maxRecDepth 100000 in
theorem concatCh_ok (b : Nat) (a1 a2 a3 : Option Addr) (c1 c2 c3 : Nat) (l1 l2 l3 : List Chg3) (w0 : World) (hm : (l1.length + l2.length + l3.length) * 24 ≤ 140737488351232) (hb : K.Blk w0 b 42 [.slice a1 l1.length c1, .slice a2 l2.length c2, .slice a3 l3.length c3]) (h1 : RCh w0 a1 l1) (h2 : RCh w0 a2 l2) (h3 : RCh w0 a3 l3) :
    K.KC Try.prog 66 #[.slice (some ⟨b, 0, none⟩) 3 3] w0 (fun v w' => ∃ r m c, v = .slice r m c ∧ K.Chg K.No w0 w' ∧ K.Own w' w0.heap.size 46 3 r m c ((l1 ++ l2 ++ l3).flatMap chgC) ∧ (l1 ++ l2 ++ l3).length = m) := by
  refine K.KC.mk (n := 36) Try.func66 rfl rfl [.slice (some ⟨b, 0, none⟩) 3 3] rfl rfl ?_
  refine K.KW.seq ?_
  -- region 0 slices.go:491
  refine K.KW.region ?_
  refine K.RW.q rfl rfl (K.QR.k (v := .slice none 0 0) (by kernel_rfl)) ?_
  refine K.RW.nil ?_
  refine K.thn_normal ?_
  refine K.KW.seq ?_
  -- region 1 slices.go:492
  refine K.KW.region ?_
  refine K.RW.q rfl rfl (K.QR.k (v := .int .i64 0) (by kernel_rfl)) ?_
  refine K.RW.nil ?_
  refine K.thn_normal ?_
  refine K.KW.seq ?_
  refine K.KW.seq ?_
  -- region 2 slices.go:493
  refine K.KW.region ?_
  refine K.RW.q rfl rfl (K.QR.k (v := .slice (some ⟨b, 0, none⟩) 3 3) (by kernel_rfl)) ?_
  refine K.RW.q rfl rfl (K.QR.len (P := Try.prog) rfl rfl Try.underlying112) ?_
  refine K.RW.q rfl rfl (K.QR.k (v := .int .i64 0) (by kernel_rfl)) ?_
  refine K.RW.nil ?_
  refine K.thn_normal ?_
  refine K.KW.block ?_
  refine K.KW.unr 3 ?_
  refine K.Unr.succ ?_
  refine K.KW.seq ?_
  -- region 3 slices.go:493
  refine K.KW.region ?_
  refine K.RW.q rfl rfl (K.QR.k (v := .bool true) (by kernel_rfl)) ?_
  refine K.RW.nil ?_
  refine K.thn_normal ?_
  refine K.KW.seq ?_
  refine K.KW.ifT rfl ?_
  refine K.KW.skip ?_
  refine K.thn_normal ?_
  refine K.KW.seq ?_
  refine K.KW.block ?_
  refine K.KW.seq ?_
  -- region 4 slices.go:493
  refine K.KW.region ?_
  refine K.RW.q rfl rfl (K.QR.ix 0 1 rfl rfl rfl Try.underlying112 (by kernel_rfl) (by omega) (by simp)) ?_
  refine K.RW.q rfl rfl (K.QR.ld1 (v := .slice a1 l1.length c1) rfl rfl (by kernel_rfl) (hb.cell rfl)) ?_
  refine K.RW.q rfl rfl (K.QR.k (v := .slice a1 l1.length c1) (by kernel_rfl)) ?_
  refine K.RW.nil ?_
  refine K.thn_normal ?_
  refine K.KW.seq ?_
  -- region 5 slices.go:494
  refine K.KW.region ?_
  refine K.RW.q rfl rfl (K.QR.k (v := .int .i64 0) (by kernel_rfl)) ?_
  refine K.RW.q rfl rfl (K.QR.k (v := .slice a1 l1.length c1) (by kernel_rfl)) ?_
  refine K.RW.q rfl rfl (K.QR.len (P := Try.prog) rfl rfl Try.underlying42) ?_
  refine K.RW.q rfl rfl (K.QR.n64 ((0 : Int) + (((l1.length : Nat) : Int) : Int)) ((l1.length : Nat) : Int) (by kernel_rfl) (by omega)) ?_
  refine K.RW.q rfl rfl (K.QR.k (v := .int .i64 ((l1.length : Nat) : Int)) (by kernel_rfl)) ?_
  refine K.RW.nil ?_
  refine K.thn_normal ?_
  refine K.KW.seq ?_
  -- region 6 slices.go:495
  refine K.KW.region ?_
  refine K.RW.q rfl rfl (K.QR.k (v := .int .i64 ((l1.length : Nat) : Int)) (by kernel_rfl)) ?_
  refine K.RW.q rfl rfl (K.QR.nice (v := .bool (decide ((((l1.length : Nat) : Int) : Int) < (0 : Int)))) (by kernel_rfl) (congrArg Value.bool (decide_eq_false (by omega)))) ?_
  refine K.RW.nil ?_
  refine K.thn_normal ?_
  refine K.KW.ifF rfl ?_
  refine K.KW.skip ?_
  refine K.blk_normal ?_
  refine K.thn_normal ?_
  -- region 8 slices.go:493
  refine K.KW.region ?_
  refine K.RW.q rfl rfl (K.QR.k (v := .int .i64 1) (by kernel_rfl)) ?_
  refine K.RW.q rfl rfl (K.QR.k (v := .int .i64 1) (by kernel_rfl)) ?_
  refine K.RW.nil ?_
  refine K.thn_normal ?_
  refine K.Unr.succ ?_
  refine K.KW.seq ?_
  -- region 3 slices.go:493
  refine K.KW.region ?_
  refine K.RW.q rfl rfl (K.QR.k (v := .bool true) (by kernel_rfl)) ?_
  refine K.RW.nil ?_
  refine K.thn_normal ?_
  refine K.KW.seq ?_
  refine K.KW.ifT rfl ?_
  refine K.KW.skip ?_
  refine K.thn_normal ?_
  refine K.KW.seq ?_
  refine K.KW.block ?_
  refine K.KW.seq ?_
  -- region 4 slices.go:493
  refine K.KW.region ?_
  refine K.RW.q rfl rfl (K.QR.ix 1 1 rfl rfl rfl Try.underlying112 (by kernel_rfl) (by omega) (by simp)) ?_
  refine K.RW.q rfl rfl (K.QR.ld1 (v := .slice a2 l2.length c2) rfl rfl (by kernel_rfl) (hb.cell rfl)) ?_
  refine K.RW.q rfl rfl (K.QR.k (v := .slice a2 l2.length c2) (by kernel_rfl)) ?_
  refine K.RW.nil ?_
  refine K.thn_normal ?_
  refine K.KW.seq ?_
  -- region 5 slices.go:494
  refine K.KW.region ?_
  refine K.RW.q rfl rfl (K.QR.k (v := .int .i64 ((l1.length : Nat) : Int)) (by kernel_rfl)) ?_
  refine K.RW.q rfl rfl (K.QR.k (v := .slice a2 l2.length c2) (by kernel_rfl)) ?_
  refine K.RW.q rfl rfl (K.QR.len (P := Try.prog) rfl rfl Try.underlying42) ?_
  refine K.RW.q rfl rfl (K.QR.n64 ((((l1.length : Nat) : Int) : Int) + (((l2.length : Nat) : Int) : Int)) ((l1.length + l2.length : Nat) : Int) (by kernel_rfl) (by omega)) ?_
  refine K.RW.q rfl rfl (K.QR.k (v := .int .i64 ((l1.length + l2.length : Nat) : Int)) (by kernel_rfl)) ?_
  refine K.RW.nil ?_
  refine K.thn_normal ?_
  refine K.KW.seq ?_
  -- region 6 slices.go:495
  refine K.KW.region ?_
  refine K.RW.q rfl rfl (K.QR.k (v := .int .i64 ((l1.length + l2.length : Nat) : Int)) (by kernel_rfl)) ?_
  refine K.RW.q rfl rfl (K.QR.nice (v := .bool (decide ((((l1.length + l2.length : Nat) : Int) : Int) < (0 : Int)))) (by kernel_rfl) (congrArg Value.bool (decide_eq_false (by omega)))) ?_
  refine K.RW.nil ?_
  refine K.thn_normal ?_
  refine K.KW.ifF rfl ?_
  refine K.KW.skip ?_
  refine K.blk_normal ?_
  refine K.thn_normal ?_
  -- region 8 slices.go:493
  refine K.KW.region ?_
  refine K.RW.q rfl rfl (K.QR.k (v := .int .i64 2) (by kernel_rfl)) ?_
  refine K.RW.q rfl rfl (K.QR.k (v := .int .i64 2) (by kernel_rfl)) ?_
  refine K.RW.nil ?_
  refine K.thn_normal ?_
  refine K.Unr.succ ?_
  refine K.KW.seq ?_
  -- region 3 slices.go:493
  refine K.KW.region ?_
  refine K.RW.q rfl rfl (K.QR.k (v := .bool true) (by kernel_rfl)) ?_
  refine K.RW.nil ?_
  refine K.thn_normal ?_
  refine K.KW.seq ?_
  refine K.KW.ifT rfl ?_
  refine K.KW.skip ?_
  refine K.thn_normal ?_
  refine K.KW.seq ?_
  refine K.KW.block ?_
  refine K.KW.seq ?_
  -- region 4 slices.go:493
  refine K.KW.region ?_
  refine K.RW.q rfl rfl (K.QR.ix 2 1 rfl rfl rfl Try.underlying112 (by kernel_rfl) (by omega) (by simp)) ?_
  refine K.RW.q rfl rfl (K.QR.ld1 (v := .slice a3 l3.length c3) rfl rfl (by kernel_rfl) (hb.cell rfl)) ?_
  refine K.RW.q rfl rfl (K.QR.k (v := .slice a3 l3.length c3) (by kernel_rfl)) ?_
  refine K.RW.nil ?_
  refine K.thn_normal ?_
  refine K.KW.seq ?_
  -- region 5 slices.go:494
  refine K.KW.region ?_
  refine K.RW.q rfl rfl (K.QR.k (v := .int .i64 ((l1.length + l2.length : Nat) : Int)) (by kernel_rfl)) ?_
  refine K.RW.q rfl rfl (K.QR.k (v := .slice a3 l3.length c3) (by kernel_rfl)) ?_
  refine K.RW.q rfl rfl (K.QR.len (P := Try.prog) rfl rfl Try.underlying42) ?_
  refine K.RW.q rfl rfl (K.QR.n64 ((((l1.length + l2.length : Nat) : Int) : Int) + (((l3.length : Nat) : Int) : Int)) ((l1.length + l2.length + l3.length : Nat) : Int) (by kernel_rfl) (by omega)) ?_
  refine K.RW.q rfl rfl (K.QR.k (v := .int .i64 ((l1.length + l2.length + l3.length : Nat) : Int)) (by kernel_rfl)) ?_
  refine K.RW.nil ?_
  refine K.thn_normal ?_
  refine K.KW.seq ?_
  -- region 6 slices.go:495
  refine K.KW.region ?_
  refine K.RW.q rfl rfl (K.QR.k (v := .int .i64 ((l1.length + l2.length + l3.length : Nat) : Int)) (by kernel_rfl)) ?_
  refine K.RW.q rfl rfl (K.QR.nice (v := .bool (decide ((((l1.length + l2.length + l3.length : Nat) : Int) : Int) < (0 : Int)))) (by kernel_rfl) (congrArg Value.bool (decide_eq_false (by omega)))) ?_
  refine K.RW.nil ?_
  refine K.thn_normal ?_
  refine K.KW.ifF rfl ?_
  refine K.KW.skip ?_
  refine K.blk_normal ?_
  refine K.thn_normal ?_
  -- region 8 slices.go:493
  refine K.KW.region ?_
  refine K.RW.q rfl rfl (K.QR.k (v := .int .i64 3) (by kernel_rfl)) ?_
  refine K.RW.q rfl rfl (K.QR.k (v := .int .i64 3) (by kernel_rfl)) ?_
  refine K.RW.nil ?_
  refine K.thn_normal ?_
  refine K.Unr.zero ?_
  refine K.KW.seq ?_
  -- region 3 slices.go:493
  refine K.KW.region ?_
  refine K.RW.q rfl rfl (K.QR.k (v := .bool false) (by kernel_rfl)) ?_
  refine K.RW.nil ?_
  refine K.thn_normal ?_
  refine K.KW.seq ?_
  refine K.KW.ifF rfl ?_
  refine K.KW.exit ?_
  refine K.thn_exit ?_
  refine K.thn_exit ?_
  refine K.blk_hit ?_
  refine K.thn_normal ?_
  refine K.KW.seq ?_
  -- region 9 slices.go:502
  refine K.KW.region ?_
  refine K.RW.q rfl rfl (K.QR.k (v := .int .i64 ((l1.length + l2.length + l3.length : Nat) : Int)) (by kernel_rfl)) ?_
  refine K.RW.l rfl (K.OW.call rfl [.slice none 0 0, .int .i64 ((l1.length + l2.length + l3.length : Nat) : Int)] rfl rfl (by kernel_rfl) (growCh_ok (l1.length + l2.length + l3.length) _ (by omega)) ?_) 
  rintro _ w_5 ⟨r_1, cc_2, rfl, c_3, o_4⟩
  have c_6 := c_3
  have z_7 := c_6.size
  have o_8 := K.Own.mono (base' := w0.heap.size) o_4 (by omega)
  refine K.RW.q rfl rfl (K.QR.k (v := .slice r_1 0 cc_2) (by kernel_rfl)) ?_
  refine K.RW.nil ?_
  refine K.thn_normal ?_
  refine K.KW.seq ?_
  refine K.KW.seq ?_
  -- region 10 slices.go:503
  refine K.KW.region ?_
  refine K.RW.q rfl rfl (K.QR.k (v := .slice (some ⟨b, 0, none⟩) 3 3) (by kernel_rfl)) ?_
  refine K.RW.q rfl rfl (K.QR.len (P := Try.prog) rfl rfl Try.underlying112) ?_
  refine K.RW.q rfl rfl (K.QR.k (v := .int .i64 0) (by kernel_rfl)) ?_
  refine K.RW.nil ?_
  refine K.thn_normal ?_
  refine K.KW.block ?_
  refine K.KW.unr 3 ?_
  refine K.Unr.succ ?_
  refine K.KW.seq ?_
  -- region 11 slices.go:503
  refine K.KW.region ?_
  refine K.RW.q rfl rfl (K.QR.k (v := .bool true) (by kernel_rfl)) ?_
  refine K.RW.nil ?_
  refine K.thn_normal ?_
  refine K.KW.seq ?_
  refine K.KW.ifT rfl ?_
  refine K.KW.skip ?_
  refine K.thn_normal ?_
  refine K.KW.seq ?_
  refine K.KW.block ?_
  refine K.KW.seq ?_
  -- region 12 slices.go:503
  refine K.KW.region ?_
  refine K.RW.q rfl rfl (K.QR.ix 0 1 rfl rfl rfl Try.underlying112 (by kernel_rfl) (by omega) (by simp)) ?_
  refine K.RW.q rfl rfl (K.QR.ld1 (v := .slice a1 l1.length c1) rfl rfl (by kernel_rfl) (c_6.cell (hb.cell rfl) id)) ?_
  refine K.RW.q rfl rfl (K.QR.k (v := .slice a1 l1.length c1) (by kernel_rfl)) ?_
  refine K.RW.nil ?_
  refine K.thn_normal ?_
  -- region 13 slices.go:504
  refine K.KW.region ?_
  refine K.RW.q rfl rfl (K.QR.k (v := .slice r_1 0 cc_2) (by kernel_rfl)) ?_
  refine K.RW.q rfl rfl (K.QR.k (v := .slice a1 l1.length c1) (by kernel_rfl)) ?_
  refine K.RW.l rfl (K.OW.appR (P := Try.prog) (c := chgC) (L := []) (L2 := l1) (z := .agg #[.int .i64 0, .int .u64 0, .int .u64 0]) (size := 3) (bytes := 24) rfl d3 rfl rfl o_8 rfl Try.underlying42 (by kernel_rfl) rfl (by decide) rfl (h1.no c_6) (fun _ => rfl) (fun _ => K.one_cells rfl) (by unfold maxLen; omega) (by omega) (by omega) ?_) 
  intro a_9 cap_10 w_11 e_12 o_13 hn_14
  have c_15 := c_6.trans e_12 (fun i hi hy => absurd (o_8.base_le i hy) (by omega))
  have z_16 := c_15.size
  have ln_17 : (([] ++ l1)).length = 0 + l1.length := by simp
  refine K.RW.q rfl rfl (K.QR.k (v := .slice a_9 (0 + l1.length) cap_10) (by kernel_rfl)) ?_
  refine K.RW.nil ?_
  refine K.blk_normal ?_
  refine K.thn_normal ?_
  -- region 14 slices.go:503
  refine K.KW.region ?_
  refine K.RW.q rfl rfl (K.QR.k (v := .int .i64 1) (by kernel_rfl)) ?_
  refine K.RW.q rfl rfl (K.QR.k (v := .int .i64 1) (by kernel_rfl)) ?_
  refine K.RW.nil ?_
  refine K.thn_normal ?_
  refine K.Unr.succ ?_
  refine K.KW.seq ?_
  -- region 11 slices.go:503
  refine K.KW.region ?_
  refine K.RW.q rfl rfl (K.QR.k (v := .bool true) (by kernel_rfl)) ?_
  refine K.RW.nil ?_
  refine K.thn_normal ?_
  refine K.KW.seq ?_
  refine K.KW.ifT rfl ?_
  refine K.KW.skip ?_
  refine K.thn_normal ?_
  refine K.KW.seq ?_
  refine K.KW.block ?_
  refine K.KW.seq ?_
  -- region 12 slices.go:503
  refine K.KW.region ?_
  refine K.RW.q rfl rfl (K.QR.ix 1 1 rfl rfl rfl Try.underlying112 (by kernel_rfl) (by omega) (by simp)) ?_
  refine K.RW.q rfl rfl (K.QR.ld1 (v := .slice a2 l2.length c2) rfl rfl (by kernel_rfl) (c_15.cell (hb.cell rfl) id)) ?_
  refine K.RW.q rfl rfl (K.QR.k (v := .slice a2 l2.length c2) (by kernel_rfl)) ?_
  refine K.RW.nil ?_
  refine K.thn_normal ?_
  -- region 13 slices.go:504
  refine K.KW.region ?_
  refine K.RW.q rfl rfl (K.QR.k (v := .slice a_9 (0 + l1.length) cap_10) (by kernel_rfl)) ?_
  refine K.RW.q rfl rfl (K.QR.k (v := .slice a2 l2.length c2) (by kernel_rfl)) ?_
  refine K.RW.l rfl (K.OW.appR (P := Try.prog) (c := chgC) (L := ([] ++ l1)) (L2 := l2) (z := .agg #[.int .i64 0, .int .u64 0, .int .u64 0]) (size := 3) (bytes := 24) rfl d3 rfl rfl o_13 rfl Try.underlying42 (by kernel_rfl) rfl (by decide) rfl (h2.no c_15) (fun _ => rfl) (fun _ => K.one_cells rfl) (by unfold maxLen; omega) (by omega) (by omega) ?_) 
  intro a_18 cap_19 w_20 e_21 o_22 hn_23
  have c_24 := c_15.trans e_21 (fun i hi hy => absurd (o_13.base_le i hy) (by omega))
  have z_25 := c_24.size
  have ln_26 : ((([] ++ l1) ++ l2)).length = 0 + l1.length + l2.length := by rw [List.length_append, ln_17]
  refine K.RW.q rfl rfl (K.QR.k (v := .slice a_18 (0 + l1.length + l2.length) cap_19) (by kernel_rfl)) ?_
  refine K.RW.nil ?_
  refine K.blk_normal ?_
  refine K.thn_normal ?_
  -- region 14 slices.go:503
  refine K.KW.region ?_
  refine K.RW.q rfl rfl (K.QR.k (v := .int .i64 2) (by kernel_rfl)) ?_
  refine K.RW.q rfl rfl (K.QR.k (v := .int .i64 2) (by kernel_rfl)) ?_
  refine K.RW.nil ?_
  refine K.thn_normal ?_
  refine K.Unr.succ ?_
  refine K.KW.seq ?_
  -- region 11 slices.go:503
  refine K.KW.region ?_
  refine K.RW.q rfl rfl (K.QR.k (v := .bool true) (by kernel_rfl)) ?_
  refine K.RW.nil ?_
  refine K.thn_normal ?_
  refine K.KW.seq ?_
  refine K.KW.ifT rfl ?_
  refine K.KW.skip ?_
  refine K.thn_normal ?_
  refine K.KW.seq ?_
  refine K.KW.block ?_
  refine K.KW.seq ?_
  -- region 12 slices.go:503
  refine K.KW.region ?_
  refine K.RW.q rfl rfl (K.QR.ix 2 1 rfl rfl rfl Try.underlying112 (by kernel_rfl) (by omega) (by simp)) ?_
  refine K.RW.q rfl rfl (K.QR.ld1 (v := .slice a3 l3.length c3) rfl rfl (by kernel_rfl) (c_24.cell (hb.cell rfl) id)) ?_
  refine K.RW.q rfl rfl (K.QR.k (v := .slice a3 l3.length c3) (by kernel_rfl)) ?_
  refine K.RW.nil ?_
  refine K.thn_normal ?_
  -- region 13 slices.go:504
  refine K.KW.region ?_
  refine K.RW.q rfl rfl (K.QR.k (v := .slice a_18 (0 + l1.length + l2.length) cap_19) (by kernel_rfl)) ?_
  refine K.RW.q rfl rfl (K.QR.k (v := .slice a3 l3.length c3) (by kernel_rfl)) ?_
  refine K.RW.l rfl (K.OW.appR (P := Try.prog) (c := chgC) (L := (([] ++ l1) ++ l2)) (L2 := l3) (z := .agg #[.int .i64 0, .int .u64 0, .int .u64 0]) (size := 3) (bytes := 24) rfl d3 rfl rfl o_22 rfl Try.underlying42 (by kernel_rfl) rfl (by decide) rfl (h3.no c_24) (fun _ => rfl) (fun _ => K.one_cells rfl) (by unfold maxLen; omega) (by omega) (by omega) ?_) 
  intro a_27 cap_28 w_29 e_30 o_31 hn_32
  have c_33 := c_24.trans e_30 (fun i hi hy => absurd (o_22.base_le i hy) (by omega))
  have z_34 := c_33.size
  have ln_35 : (((([] ++ l1) ++ l2) ++ l3)).length = 0 + l1.length + l2.length + l3.length := by rw [List.length_append, ln_26]
  refine K.RW.q rfl rfl (K.QR.k (v := .slice a_27 (0 + l1.length + l2.length + l3.length) cap_28) (by kernel_rfl)) ?_
  refine K.RW.nil ?_
  refine K.blk_normal ?_
  refine K.thn_normal ?_
  -- region 14 slices.go:503
  refine K.KW.region ?_
  refine K.RW.q rfl rfl (K.QR.k (v := .int .i64 3) (by kernel_rfl)) ?_
  refine K.RW.q rfl rfl (K.QR.k (v := .int .i64 3) (by kernel_rfl)) ?_
  refine K.RW.nil ?_
  refine K.thn_normal ?_
  refine K.Unr.zero ?_
  refine K.KW.seq ?_
  -- region 11 slices.go:503
  refine K.KW.region ?_
  refine K.RW.q rfl rfl (K.QR.k (v := .bool false) (by kernel_rfl)) ?_
  refine K.RW.nil ?_
  refine K.thn_normal ?_
  refine K.KW.seq ?_
  refine K.KW.ifF rfl ?_
  refine K.KW.exit ?_
  refine K.thn_exit ?_
  refine K.thn_exit ?_
  refine K.blk_hit ?_
  refine K.thn_normal ?_
  refine K.KW.seq ?_
  -- region 15 slices.go:506
  refine K.KW.region ?_
  refine K.RW.q rfl rfl (K.QR.k (v := .slice a_27 (0 + l1.length + l2.length + l3.length) cap_28) (by kernel_rfl)) ?_
  refine K.RW.q rfl rfl (K.QR.k (v := .slice a_27 (0 + l1.length + l2.length + l3.length) cap_28) (by kernel_rfl)) ?_
  refine K.RW.nil ?_
  refine K.thn_normal ?_
  refine K.KW.ret ?_
  refine ⟨.inr rfl, (.slice a_27 (0 + l1.length + l2.length + l3.length) cap_28), K.res1 rfl rfl, ?_⟩
  exact ⟨_, _, _, rfl, c_33, by simpa using o_31, by simp only [List.length_append]; omega⟩

set_option maxHeartbeats 1000000 in
set_option maxRecDepth 100000 in
theorem join_ok (a b : Option Addr) (cap cap' : Nat) (l m : List Chg3) (w0 : World) (hm : (l.length + m.length) * 24 ≤ 140737488351232) (hc1 : l.length ≤ cap) (hc2 : m.length ≤ cap') (hl : RCh w0 a l) (hk : RCh w0 b m) :
    K.KC Try.prog 41 #[.slice a l.length cap, .slice b m.length cap'] w0 (fun v w' => ∃ r m1 c, v = .tuple #[.slice r m1 c, .int .i64 (joinR l m).1] ∧ K.Chg K.No w0 w' ∧ K.Own w' w0.heap.size 46 3 r m1 c (((joinR l m).2).flatMap chgC) ∧ (joinR l m).2.length = m1) := by
  refine K.KC.mk (n := 86) Try.func41 rfl rfl [.slice a l.length cap, .slice b m.length cap'] rfl rfl ?_
  refine K.KW.seq ?_
  -- region 0 diff.go:68
  refine K.KW.region ?_
  refine K.RW.q rfl rfl (K.QR.k (v := .slice none 0 0) (by kernel_rfl)) ?_
  refine K.RW.q rfl rfl (K.QR.k (v := .int .i64 0) (by kernel_rfl)) ?_
  refine K.RW.nil ?_
  refine K.thn_normal ?_
  refine K.KW.scope ?_
  refine K.KW.seq ?_
  refine K.KW.seq ?_
  -- region 1 diff.go:69
  refine K.KW.region ?_
  refine K.RW.q rfl rfl (K.QR.k (v := .slice a l.length cap) (by kernel_rfl)) ?_
  refine K.RW.l rfl (K.OW.call rfl [.slice a l.length cap] rfl rfl (by kernel_rfl) (right_ok _ _ l _ (by first | omega | (simp; omega) | simp) hl) ?_) 
  rintro v_4 w_2 ⟨hv_3, c_1⟩
  have c_5 := c_1
  have z_6 := c_5.size
  rcases Bool.eq_false_or_eq_true (right l) with hb_7 | hb_7
  ·  -- True
    rw [hb_7] at hv_3; subst hv_3
    refine K.RW.q rfl rfl (K.QR.k (v := .bool false) (by kernel_rfl)) ?_
    refine K.RW.q rfl rfl (K.QR.k (v := .bool false) (by kernel_rfl)) ?_
    refine K.RW.q rfl (by kernel_rfl) (K.QR.k (v := .slice b m.length cap') (by kernel_rfl)) ?_
    refine K.RW.l (by kernel_rfl) (K.OW.call rfl [.slice b m.length cap'] rfl rfl (by kernel_rfl) (right_ok _ _ m _ (by first | omega | (simp; omega) | simp) (hk.no c_5)) ?_) 
    rintro v_11 w_9 ⟨hv_10, c_8⟩
    have c_12 := c_5.no c_8
    have z_13 := c_12.size
    rcases Bool.eq_false_or_eq_true (right m) with hb_14 | hb_14
    ·  -- True
      rw [hb_14] at hv_10; subst hv_10
      refine K.RW.q rfl (by kernel_rfl) (K.QR.k (v := .bool false) (by kernel_rfl)) ?_
      refine K.RW.q rfl rfl (K.QR.k (v := .bool false) (by kernel_rfl)) ?_
      refine K.RW.nil ?_
      refine K.thn_normal ?_
      refine K.KW.ifF rfl ?_
      refine K.KW.skip ?_
      refine K.thn_normal ?_
      refine K.KW.seq ?_
      -- region 3 diff.go:72
      refine K.KW.region ?_
      refine K.RW.q rfl rfl (K.QR.k (v := .slice none 0 0) (by kernel_rfl)) ?_
      refine K.RW.nil ?_
      refine K.thn_normal ?_
      refine K.KW.seq ?_
      refine K.KW.label ?_
      refine K.thn_normal ?_
      refine K.KW.seq ?_
      refine K.KW.block ?_
      refine K.KW.loop (fun m_ F_ w_15 => ∃ (x : List Chg3) (y : List Chg3) (p : Option Addr) (q : Option Addr) (cx : Nat) (cy : Nat) (out : List Chg3) (r : Option Addr) (m1 : Nat) (c1 : Nat), m_ = x.length + y.length ∧ K.Sl F_ [(0, .slice p x.length cx), (1, .slice q y.length cy), (6, .slice r m1 c1)] ∧ x.length ≤ cx ∧ y.length ≤ cy ∧ out.length = m1 ∧ m1 + x.length + y.length ≤ l.length + m.length ∧ mK l m x y out ∧ right l = true ∧ right m = true ∧ RCh w0 p x ∧ RCh w0 q y ∧ K.Chg K.No w0 w_15 ∧ K.Own w_15 w0.heap.size 46 3 r m1 c1 ((out).flatMap chgC)) ((fun (x : List Chg3) (y : List Chg3) (p : Option Addr) (q : Option Addr) (cx : Nat) (cy : Nat) (out : List Chg3) (r : Option Addr) (m1 : Nat) (c1 : Nat) => x.length + y.length) l m a b cap cap' [] none 0 0) ?_ ?_
      · -- the loop begins
        exact ⟨l, m, a, b, cap, cap', [], none, 0, 0, rfl, ⟨by rfl, by rfl, by rfl, trivial⟩, (by omega), (by omega), (rfl), (by omega), (mK_zero l m), (by assumption), (by assumption), (hl), (hk), c_12, K.Own.nil _ _ _ _⟩
      · -- a round
        intro m_16 F_17 w_15 hI
        obtain ⟨x, y, p, q, cx, cy, out, r, m1, c1, rfl, sl_18, p_20, p_21, p_22, p_23, p_24, p_25, p_26, p_27, p_28, c_19, f_29⟩ := hI
        rw [← K.Sl.puts sl_18]; clear sl_18
        have z_30 := c_19.size
        refine K.KW.seq ?_
        refine K.KW.seq ?_
        -- region 4 diff.go:74
        refine K.KW.region ?_
        refine K.RW.q rfl rfl (K.QR.k (v := .slice p x.length cx) (by kernel_rfl)) ?_
        refine K.RW.q rfl rfl (K.QR.len (P := Try.prog) rfl rfl Try.underlying42) ?_
        by_cases h_31 : (((x.length : Nat) : Int) : Int) > (0 : Int)
        ·  -- yes
          refine K.RW.q rfl rfl (K.QR.nice (v := .bool (decide ((((x.length : Nat) : Int) : Int) > (0 : Int)))) (by kernel_rfl) (congrArg Value.bool (decide_eq_true h_31))) ?_
          refine K.RW.q rfl rfl (K.QR.k (v := .bool true) (by kernel_rfl)) ?_
          refine K.RW.q rfl (by kernel_rfl) (K.QR.k (v := .slice q y.length cy) (by kernel_rfl)) ?_
          refine K.RW.q rfl (by kernel_rfl) (K.QR.len (P := Try.prog) rfl rfl Try.underlying42) ?_
          by_cases h_32 : (((y.length : Nat) : Int) : Int) > (0 : Int)
          ·  -- yes
            refine K.RW.q rfl (by kernel_rfl) (K.QR.nice (v := .bool (decide ((((y.length : Nat) : Int) : Int) > (0 : Int)))) (by kernel_rfl) (congrArg Value.bool (decide_eq_true h_32))) ?_
            refine K.RW.q rfl rfl (K.QR.k (v := .bool true) (by kernel_rfl)) ?_
            refine K.RW.nil ?_
            refine K.thn_normal ?_
            refine K.KW.ifT rfl ?_
            refine K.KW.skip ?_
            refine K.thn_normal ?_
            refine K.KW.block ?_
            refine K.KW.seq ?_
            -- region 5 diff.go:75
            obtain ⟨b_33, of_34, rfl, _⟩ := p_27.at_ (by omega)
            obtain ⟨b_35, of_36, rfl, _⟩ := p_28.at_ (by omega)
            refine K.KW.drawn (fun w => K.Chg K.No w0 w) (by kernel_rfl) ?_
            intro w_37 e_38 hs_39
            have c_41 := c_19.no e_38
            have z_42 := c_41.size
            have f_43 := f_29.no e_38
            have hS_40 : (fun w => K.Chg K.No w0 w) w_37 := c_41
            refine K.DW.q 0 (by kernel_rfl) rfl rfl (by kernel_rfl) rfl (fun w hS => K.QR.k (v := .slice (some ⟨b_33, of_34, none⟩) x.length cx) (by kernel_rfl)) hS_40 ?_
            refine K.DW.q 1 (by kernel_rfl) rfl rfl (by kernel_rfl) rfl (fun w hS => K.QR.ix (of_34 + 0 * 3) 3 rfl rfl rfl Try.underlying42 (by kernel_rfl) (by omega) (by simp)) hS_40 ?_
            refine K.DW.q 2 (by kernel_rfl) rfl rfl (by kernel_rfl) rfl (fun w hS => K.QR.ldN [.int .i64 ((x.getD 0 d3).at_), .int .u64 ((x.getD 0 d3).old), .int .u64 ((x.getD 0 d3).new)] rfl rfl (by kernel_rfl) (by kernel_rfl) (K.cells (K.cl (hS.cell (p_27.ld 0 (by omega) 0 _ rfl) id) (K.cl (hS.cell (p_27.ld 0 (by omega) 1 _ rfl) id) (K.cl (hS.cell (p_27.ld 0 (by omega) 2 _ rfl) id) K.cl0))))) hS_40 ?_
            refine K.DW.q 3 (by kernel_rfl) rfl rfl (by kernel_rfl) rfl (fun w hS => K.QR.k (v := .slice (some ⟨b_35, of_36, none⟩) y.length cy) (by kernel_rfl)) hS_40 ?_
            refine K.DW.q 4 (by kernel_rfl) rfl rfl (by kernel_rfl) rfl (fun w hS => K.QR.ix (of_36 + 0 * 3) 3 rfl rfl rfl Try.underlying42 (by kernel_rfl) (by omega) (by simp)) hS_40 ?_
            refine K.DW.q 5 (by kernel_rfl) rfl rfl (by kernel_rfl) rfl (fun w hS => K.QR.ldN [.int .i64 ((y.getD 0 d3).at_), .int .u64 ((y.getD 0 d3).old), .int .u64 ((y.getD 0 d3).new)] rfl rfl (by kernel_rfl) (by kernel_rfl) (K.cells (K.cl (hS.cell (p_28.ld 0 (by omega) 0 _ rfl) id) (K.cl (hS.cell (p_28.ld 0 (by omega) 1 _ rfl) id) (K.cl (hS.cell (p_28.ld 0 (by omega) 2 _ rfl) id) K.cl0))))) hS_40 ?_
            refine K.DW.new2 (l12 := #[true, true, true, true, true, true, true, true, false, false]) 6 7 (t1 := 46) (t2 := 46) (fun r => .pointer (some ⟨r, 0, none⟩)) (fun r => .pointer (some ⟨r, 0, none⟩)) [.int .i64 0, .int .u64 0, .int .u64 0] [.int .i64 0, .int .u64 0, .int .u64 0] rfl rfl (by kernel_rfl) (by kernel_rfl) (by kernel_rfl) rfl rfl rfl rfl rfl rfl (by decide) (fun _ => by kernel_rfl) (fun _ => by kernel_rfl) (fun _ _ => by kernel_rfl) (fun _ _ => by kernel_rfl) (fun w e => c_41.no e) ?_
            intro w_44 r_45 r_46 g_47 g_48 ne_49 g_50 g_51 e_52 b_53 b_54
            have c_55 := c_41.no e_52
            have z_56 := c_55.size
            have f_57 := f_43.no e_52
            have ap_58 : ∀ k, K.Ow r k → ¬ k = r_45 := fun k hk he => absurd (f_43.lt k hk) (by omega)
            have ap_59 : ∀ k, K.Ow r k → ¬ k = r_46 := fun k hk he => absurd (f_43.lt k hk) (by omega)
            have hS_60 : (fun w => K.Chg K.No w0 w) w_44 := c_55
            refine ⟨hS_60, ?_⟩
            refine K.DW.l 8 rfl (by kernel_rfl) rfl (K.OW.st [.int .i64 ((x.getD 0 d3).at_), .int .u64 ((x.getD 0 d3).old), .int .u64 ((x.getD 0 d3).new)] [.int .i64 ((x.getD 0 d3).at_), .int .u64 ((x.getD 0 d3).old), .int .u64 ((x.getD 0 d3).new)] rfl rfl rfl (by kernel_rfl) b_53 rfl (K.one_cells (by rfl)) rfl rfl ?_)
            intro w_61 e_62 hs_63 b_64
            have c_65 := c_55.own e_62 (by omega)
            have z_66 := c_65.size
            have f_67 := f_57.chg e_62 (fun k hk hy => ap_58 k hk hy)
            have f_68 := b_54.chg e_62 (by unfold K.Is; omega)
            have hS_69 : (fun w => K.Chg K.No w0 w) w_61 := c_65
            refine ⟨hS_69, ?_⟩
            refine K.DW.l 9 rfl (by kernel_rfl) rfl (K.OW.st [.int .i64 ((y.getD 0 d3).at_), .int .u64 ((y.getD 0 d3).old), .int .u64 ((y.getD 0 d3).new)] [.int .i64 ((y.getD 0 d3).at_), .int .u64 ((y.getD 0 d3).old), .int .u64 ((y.getD 0 d3).new)] rfl rfl rfl (by kernel_rfl) f_68 rfl (K.one_cells (by rfl)) rfl rfl ?_)
            intro w_70 e_71 hs_72 b_73
            have c_74 := c_65.own e_71 (by omega)
            have z_75 := c_74.size
            have f_76 := f_67.chg e_71 (fun k hk hy => ap_59 k hk hy)
            have f_77 := b_64.chg e_71 (by unfold K.Is; omega)
            have hS_78 : (fun w => K.Chg K.No w0 w) w_70 := c_74
            refine ⟨hS_78, ?_⟩
            refine K.DW.done (by kernel_rfl) ?_
            refine K.thn_normal ?_
            refine K.KW.seq ?_
            refine K.KW.block ?_
            refine K.KW.seq ?_
            -- region 6 diff.go:77
            refine K.KW.region ?_
            refine K.RW.q rfl rfl (K.QR.k (v := .pointer (some ⟨r_45, 0, none⟩)) (by kernel_rfl)) ?_
            refine K.RW.q rfl rfl (K.QR.ld1 (v := .int .i64 ((x.getD 0 d3).at_)) rfl rfl (by kernel_rfl) (f_77.cell rfl)) ?_
            refine K.RW.q rfl rfl (K.QR.k (v := .pointer (some ⟨r_46, 0, none⟩)) (by kernel_rfl)) ?_
            refine K.RW.q rfl rfl (K.QR.ld1 (v := .int .i64 ((y.getD 0 d3).at_)) rfl rfl (by kernel_rfl) (b_73.cell rfl)) ?_
            by_cases h_79 : ((x.getD 0 d3).at_ : Int) < ((y.getD 0 d3).at_ : Int)
            ·  -- yes
              refine K.RW.q rfl rfl (K.QR.nice (v := .bool (decide (((x.getD 0 d3).at_ : Int) < ((y.getD 0 d3).at_ : Int)))) (by kernel_rfl) (congrArg Value.bool (decide_eq_true h_79))) ?_
              refine K.RW.q rfl rfl (K.QR.k (v := .bool true) (by kernel_rfl)) ?_
              refine K.RW.nil ?_
              refine K.thn_normal ?_
              refine K.KW.ifT rfl ?_
              refine K.KW.seq ?_
              -- region 7 diff.go:78
              refine K.KW.drawn (fun w => K.Chg K.No w0 w ∧ K.Blk w r_45 46 [.int .i64 ((x.getD 0 d3).at_), .int .u64 ((x.getD 0 d3).old), .int .u64 ((x.getD 0 d3).new)]) (by kernel_rfl) ?_
              intro w_80 e_81 hs_82
              have c_84 := c_74.no e_81
              have z_85 := c_84.size
              have f_86 := f_76.no e_81
              have f_87 := f_77.no e_81
              have f_88 := b_73.no e_81
              have hS_83 : (fun w => K.Chg K.No w0 w ∧ K.Blk w r_45 46 [.int .i64 ((x.getD 0 d3).at_), .int .u64 ((x.getD 0 d3).old), .int .u64 ((x.getD 0 d3).new)]) w_80 := ⟨c_84, f_87⟩
              refine K.DW.q 0 (by kernel_rfl) rfl rfl (by kernel_rfl) rfl (fun w hS => K.QR.k (v := .slice r m1 c1) (by kernel_rfl)) hS_83 ?_
              refine K.DW.q 1 (by kernel_rfl) rfl rfl (by kernel_rfl) rfl (fun w hS => K.QR.ldN [.int .i64 ((x.getD 0 d3).at_), .int .u64 ((x.getD 0 d3).old), .int .u64 ((x.getD 0 d3).new)] rfl rfl (by kernel_rfl) (by kernel_rfl) (K.cells (K.cl (hS.2.cell rfl) (K.cl (hS.2.cell rfl) (K.cl (hS.2.cell rfl) K.cl0))))) hS_83 ?_
              refine K.DW.q 4 (by kernel_rfl) rfl rfl (by kernel_rfl) rfl (fun w hS => K.QR.k (v := .slice (some ⟨b_33, of_34, none⟩) x.length cx) (by kernel_rfl)) hS_83 ?_
              have sl_89 := K.RowE.drop (c := chgC) (d := d3) (L := x) (cap := cx) p_27 1 (by omega) (by omega)
              have n_90 : (x.drop 1).length = x.length - 1 := List.length_drop
              refine K.DW.q 5 (by kernel_rfl) rfl rfl (by kernel_rfl) rfl (fun w hS => K.QR.slLo (size := 3) (m := x.length) (k := ((x.drop 1).length)) 1 rfl rfl rfl Try.underlying42 (by kernel_rfl) (by omega) (by omega)) hS_83 ?_
              refine K.DW.l 2 rfl (by kernel_rfl) rfl (K.OW.bs rfl [(0, .agg #[.int .i64 ((x.getD 0 d3).at_), .int .u64 ((x.getD 0 d3).old), .int .u64 ((x.getD 0 d3).new)])] [.int .i64 ((x.getD 0 d3).at_), .int .u64 ((x.getD 0 d3).old), .int .u64 ((x.getD 0 d3).new)] rfl rfl (fun w => K.bs_run (P := Try.prog) w 42 46 1 _ _ Try.underlying42 (by kernel_rfl)) ?_)
              intro w_91 r_92 hr_93 e_94 hs_95 b_96
              have c_97 := c_84.no e_94
              have z_98 := c_97.size
              have f_99 := f_86.no e_94
              have f_100 := f_87.no e_94
              have f_101 := f_88.no e_94
              have ap_102 : ∀ k, K.Ow r k → ¬ k = r_92 := fun k hk he => absurd (f_86.lt k hk) (by omega)
              have hS_103 : (fun w => K.Chg K.No w0 w ∧ K.Blk w r_45 46 [.int .i64 ((x.getD 0 d3).at_), .int .u64 ((x.getD 0 d3).old), .int .u64 ((x.getD 0 d3).new)]) w_91 := ⟨c_97, f_100⟩
              refine ⟨hS_103, ?_⟩
              refine K.DW.l 3 rfl (by kernel_rfl) rfl (K.OW.app (P := Try.prog) (xs := (out).flatMap chgC) (z := .agg #[.int .i64 0, .int .u64 0, .int .u64 0]) (size := 3) (bytes := 24) rfl [.int .i64 ((x.getD 0 d3).at_), .int .u64 ((x.getD 0 d3).old), .int .u64 ((x.getD 0 d3).new)] rfl rfl f_99 rfl Try.underlying42 (by kernel_rfl) rfl (by decide) (by rfl) (fun j u hj => (by rw [Nat.zero_add]; exact b_96.cell hj)) (K.one_cells (by rfl)) (by unfold maxLen; omega) (by omega) (by omega) ?_)
              intro a_104 cap_105 w_106 e_107 o_108
              have c_109 := c_97.trans e_107 (fun i hi hy => absurd (f_99.base_le i hy) (by omega))
              have z_110 := c_109.size
              have f_111 := f_100.chg e_107 (fun hk => ap_58 _ hk rfl)
              have f_112 := f_101.chg e_107 (fun hk => ap_59 _ hk rfl)
              have o_108t := K.Own.snoc (c := chgC) (L := out) (⟨(x.getD 0 d3).at_, (x.getD 0 d3).old, (x.getD 0 d3).new⟩ : Chg3) rfl o_108
              have ln_113 : ((out ++ [(⟨(x.getD 0 d3).at_, (x.getD 0 d3).old, (x.getD 0 d3).new⟩ : Chg3)])).length = m1 + 1 := by rw [List.length_append, p_22]; rfl
              have hS_114 : (fun w => K.Chg K.No w0 w ∧ K.Blk w r_45 46 [.int .i64 ((x.getD 0 d3).at_), .int .u64 ((x.getD 0 d3).old), .int .u64 ((x.getD 0 d3).new)]) w_106 := ⟨c_109, f_111⟩
              refine ⟨hS_114, ?_⟩
              refine K.DW.q 6 (by kernel_rfl) rfl rfl (by kernel_rfl) rfl (fun w hS => K.QR.k (v := .slice a_104 (m1 + 1) cap_105) (by kernel_rfl)) hS_114 ?_
              refine K.DW.q 7 (by kernel_rfl) rfl rfl (by kernel_rfl) rfl (fun w hS => K.QR.k (v := .slice (K.shift (some ⟨b_33, of_34, none⟩) cx 1 3) ((x.drop 1).length) (cx - 1)) (by kernel_rfl)) hS_114 ?_
              refine K.DW.done (by kernel_rfl) ?_
              refine K.thn_normal ?_
              refine K.KW.exit ?_
              refine K.blk_miss rfl ?_
              refine K.thn_exit ?_
              refine K.blk_hit ?_
              refine K.thn_normal ?_
              refine ⟨_, ?_, (x.drop 1), y, (K.shift (some ⟨b_33, of_34, none⟩) cx 1 3), (some ⟨b_35, of_36, none⟩), cx - 1, cy, (out ++ [(⟨(x.getD 0 d3).at_, (x.getD 0 d3).old, (x.getD 0 d3).new⟩ : Chg3)]), a_104, m1 + 1, cap_105, rfl, ⟨by rfl, by rfl, by rfl, trivial⟩, (by omega), (by omega), (ln_113), (by omega), (by first | exact mK_lt (by assumption) (by omega) (by omega) (by omega) | exact mK_gt (by assumption) (by omega) (by omega) (by omega) | exact mK_eq (by assumption) (by omega) (by omega) (by omega) (by assumption) (by assumption) | exact mK_away (by assumption) (by omega) (by omega) (by omega) (by assumption) (by assumption)), (by assumption), (by assumption), (sl_89), (p_28), c_109, o_108t⟩
              omega
            ·  -- no
              refine K.RW.q rfl rfl (K.QR.nice (v := .bool (decide (((x.getD 0 d3).at_ : Int) < ((y.getD 0 d3).at_ : Int)))) (by kernel_rfl) (congrArg Value.bool (decide_eq_false h_79))) ?_
              refine K.RW.q rfl rfl (K.QR.k (v := .bool false) (by kernel_rfl)) ?_
              refine K.RW.nil ?_
              refine K.thn_normal ?_
              refine K.KW.ifF rfl ?_
              refine K.KW.seq ?_
              -- region 8 diff.go:80
              refine K.KW.region ?_
              refine K.RW.q rfl rfl (K.QR.k (v := .pointer (some ⟨r_45, 0, none⟩)) (by kernel_rfl)) ?_
              refine K.RW.q rfl rfl (K.QR.ld1 (v := .int .i64 ((x.getD 0 d3).at_)) rfl rfl (by kernel_rfl) (f_77.cell rfl)) ?_
              refine K.RW.q rfl rfl (K.QR.k (v := .pointer (some ⟨r_46, 0, none⟩)) (by kernel_rfl)) ?_
              refine K.RW.q rfl rfl (K.QR.ld1 (v := .int .i64 ((y.getD 0 d3).at_)) rfl rfl (by kernel_rfl) (b_73.cell rfl)) ?_
              by_cases h_115 : ((x.getD 0 d3).at_ : Int) > ((y.getD 0 d3).at_ : Int)
              ·  -- yes
                refine K.RW.q rfl rfl (K.QR.nice (v := .bool (decide (((x.getD 0 d3).at_ : Int) > ((y.getD 0 d3).at_ : Int)))) (by kernel_rfl) (congrArg Value.bool (decide_eq_true h_115))) ?_
                refine K.RW.q rfl rfl (K.QR.k (v := .bool true) (by kernel_rfl)) ?_
                refine K.RW.nil ?_
                refine K.thn_normal ?_
                refine K.KW.ifT rfl ?_
                refine K.KW.seq ?_
                -- region 9 diff.go:81
                refine K.KW.drawn (fun w => K.Chg K.No w0 w ∧ K.Blk w r_46 46 [.int .i64 ((y.getD 0 d3).at_), .int .u64 ((y.getD 0 d3).old), .int .u64 ((y.getD 0 d3).new)]) (by kernel_rfl) ?_
                intro w_116 e_117 hs_118
                have c_120 := c_74.no e_117
                have z_121 := c_120.size
                have f_122 := f_76.no e_117
                have f_123 := f_77.no e_117
                have f_124 := b_73.no e_117
                have hS_119 : (fun w => K.Chg K.No w0 w ∧ K.Blk w r_46 46 [.int .i64 ((y.getD 0 d3).at_), .int .u64 ((y.getD 0 d3).old), .int .u64 ((y.getD 0 d3).new)]) w_116 := ⟨c_120, f_124⟩
                refine K.DW.q 0 (by kernel_rfl) rfl rfl (by kernel_rfl) rfl (fun w hS => K.QR.k (v := .slice r m1 c1) (by kernel_rfl)) hS_119 ?_
                refine K.DW.q 1 (by kernel_rfl) rfl rfl (by kernel_rfl) rfl (fun w hS => K.QR.ldN [.int .i64 ((y.getD 0 d3).at_), .int .u64 ((y.getD 0 d3).old), .int .u64 ((y.getD 0 d3).new)] rfl rfl (by kernel_rfl) (by kernel_rfl) (K.cells (K.cl (hS.2.cell rfl) (K.cl (hS.2.cell rfl) (K.cl (hS.2.cell rfl) K.cl0))))) hS_119 ?_
                refine K.DW.q 4 (by kernel_rfl) rfl rfl (by kernel_rfl) rfl (fun w hS => K.QR.k (v := .slice (some ⟨b_35, of_36, none⟩) y.length cy) (by kernel_rfl)) hS_119 ?_
                have sl_125 := K.RowE.drop (c := chgC) (d := d3) (L := y) (cap := cy) p_28 1 (by omega) (by omega)
                have n_126 : (y.drop 1).length = y.length - 1 := List.length_drop
                refine K.DW.q 5 (by kernel_rfl) rfl rfl (by kernel_rfl) rfl (fun w hS => K.QR.slLo (size := 3) (m := y.length) (k := ((y.drop 1).length)) 1 rfl rfl rfl Try.underlying42 (by kernel_rfl) (by omega) (by omega)) hS_119 ?_
                refine K.DW.l 2 rfl (by kernel_rfl) rfl (K.OW.bs rfl [(0, .agg #[.int .i64 ((y.getD 0 d3).at_), .int .u64 ((y.getD 0 d3).old), .int .u64 ((y.getD 0 d3).new)])] [.int .i64 ((y.getD 0 d3).at_), .int .u64 ((y.getD 0 d3).old), .int .u64 ((y.getD 0 d3).new)] rfl rfl (fun w => K.bs_run (P := Try.prog) w 42 46 1 _ _ Try.underlying42 (by kernel_rfl)) ?_)
                intro w_127 r_128 hr_129 e_130 hs_131 b_132
                have c_133 := c_120.no e_130
                have z_134 := c_133.size
                have f_135 := f_122.no e_130
                have f_136 := f_123.no e_130
                have f_137 := f_124.no e_130
                have ap_138 : ∀ k, K.Ow r k → ¬ k = r_128 := fun k hk he => absurd (f_122.lt k hk) (by omega)
                have hS_139 : (fun w => K.Chg K.No w0 w ∧ K.Blk w r_46 46 [.int .i64 ((y.getD 0 d3).at_), .int .u64 ((y.getD 0 d3).old), .int .u64 ((y.getD 0 d3).new)]) w_127 := ⟨c_133, f_137⟩
                refine ⟨hS_139, ?_⟩
                refine K.DW.l 3 rfl (by kernel_rfl) rfl (K.OW.app (P := Try.prog) (xs := (out).flatMap chgC) (z := .agg #[.int .i64 0, .int .u64 0, .int .u64 0]) (size := 3) (bytes := 24) rfl [.int .i64 ((y.getD 0 d3).at_), .int .u64 ((y.getD 0 d3).old), .int .u64 ((y.getD 0 d3).new)] rfl rfl f_135 rfl Try.underlying42 (by kernel_rfl) rfl (by decide) (by rfl) (fun j u hj => (by rw [Nat.zero_add]; exact b_132.cell hj)) (K.one_cells (by rfl)) (by unfold maxLen; omega) (by omega) (by omega) ?_)
                intro a_140 cap_141 w_142 e_143 o_144
                have c_145 := c_133.trans e_143 (fun i hi hy => absurd (f_135.base_le i hy) (by omega))
                have z_146 := c_145.size
                have f_147 := f_136.chg e_143 (fun hk => ap_58 _ hk rfl)
                have f_148 := f_137.chg e_143 (fun hk => ap_59 _ hk rfl)
                have o_144t := K.Own.snoc (c := chgC) (L := out) (⟨(y.getD 0 d3).at_, (y.getD 0 d3).old, (y.getD 0 d3).new⟩ : Chg3) rfl o_144
                have ln_149 : ((out ++ [(⟨(y.getD 0 d3).at_, (y.getD 0 d3).old, (y.getD 0 d3).new⟩ : Chg3)])).length = m1 + 1 := by rw [List.length_append, p_22]; rfl
                have hS_150 : (fun w => K.Chg K.No w0 w ∧ K.Blk w r_46 46 [.int .i64 ((y.getD 0 d3).at_), .int .u64 ((y.getD 0 d3).old), .int .u64 ((y.getD 0 d3).new)]) w_142 := ⟨c_145, f_148⟩
                refine ⟨hS_150, ?_⟩
                refine K.DW.q 6 (by kernel_rfl) rfl rfl (by kernel_rfl) rfl (fun w hS => K.QR.k (v := .slice a_140 (m1 + 1) cap_141) (by kernel_rfl)) hS_150 ?_
                refine K.DW.q 7 (by kernel_rfl) rfl rfl (by kernel_rfl) rfl (fun w hS => K.QR.k (v := .slice (K.shift (some ⟨b_35, of_36, none⟩) cy 1 3) ((y.drop 1).length) (cy - 1)) (by kernel_rfl)) hS_150 ?_
                refine K.DW.done (by kernel_rfl) ?_
                refine K.thn_normal ?_
                refine K.KW.exit ?_
                refine K.blk_miss rfl ?_
                refine K.thn_exit ?_
                refine K.blk_hit ?_
                refine K.thn_normal ?_
                refine ⟨_, ?_, x, (y.drop 1), (some ⟨b_33, of_34, none⟩), (K.shift (some ⟨b_35, of_36, none⟩) cy 1 3), cx, cy - 1, (out ++ [(⟨(y.getD 0 d3).at_, (y.getD 0 d3).old, (y.getD 0 d3).new⟩ : Chg3)]), a_140, m1 + 1, cap_141, rfl, ⟨by rfl, by rfl, by rfl, trivial⟩, (by omega), (by omega), (ln_149), (by omega), (by first | exact mK_lt (by assumption) (by omega) (by omega) (by omega) | exact mK_gt (by assumption) (by omega) (by omega) (by omega) | exact mK_eq (by assumption) (by omega) (by omega) (by omega) (by assumption) (by assumption) | exact mK_away (by assumption) (by omega) (by omega) (by omega) (by assumption) (by assumption)), (by assumption), (by assumption), (p_27), (sl_125), c_145, o_144t⟩
                omega
              ·  -- no
                refine K.RW.q rfl rfl (K.QR.nice (v := .bool (decide (((x.getD 0 d3).at_ : Int) > ((y.getD 0 d3).at_ : Int)))) (by kernel_rfl) (congrArg Value.bool (decide_eq_false h_115))) ?_
                refine K.RW.q rfl rfl (K.QR.k (v := .bool false) (by kernel_rfl)) ?_
                refine K.RW.nil ?_
                refine K.thn_normal ?_
                refine K.KW.ifF rfl ?_
                refine K.KW.seq ?_
                -- region 10 diff.go:83
                refine K.KW.region ?_
                refine K.RW.q rfl rfl (K.QR.k (v := .pointer (some ⟨r_45, 2, none⟩)) (by kernel_rfl)) ?_
                refine K.RW.q rfl rfl (K.QR.ld1 (v := .int .u64 ((x.getD 0 d3).new)) rfl rfl (by kernel_rfl) (f_77.cell rfl)) ?_
                refine K.RW.q rfl rfl (K.QR.k (v := .pointer (some ⟨r_46, 1, none⟩)) (by kernel_rfl)) ?_
                refine K.RW.q rfl rfl (K.QR.ld1 (v := .int .u64 ((y.getD 0 d3).old)) rfl rfl (by kernel_rfl) (b_73.cell rfl)) ?_
                by_cases h_151 : ((x.getD 0 d3).new : Int) = ((y.getD 0 d3).old : Int)
                ·  -- yes
                  refine K.RW.q rfl rfl (K.QR.nice (v := .bool (((x.getD 0 d3).new : Int) != ((y.getD 0 d3).old : Int))) (by kernel_rfl) (congrArg Value.bool (bne_eq_false_iff_eq.2 h_151))) ?_
                  refine K.RW.q rfl rfl (K.QR.k (v := .bool false) (by kernel_rfl)) ?_
                  refine K.RW.nil ?_
                  refine K.thn_normal ?_
                  refine K.KW.ifF rfl ?_
                  refine K.KW.seq ?_
                  -- region 12 diff.go:85
                  refine K.KW.region ?_
                  refine K.RW.q rfl rfl (K.QR.k (v := .pointer (some ⟨r_45, 1, none⟩)) (by kernel_rfl)) ?_
                  refine K.RW.q rfl rfl (K.QR.ld1 (v := .int .u64 ((x.getD 0 d3).old)) rfl rfl (by kernel_rfl) (f_77.cell rfl)) ?_
                  refine K.RW.q rfl rfl (K.QR.k (v := .pointer (some ⟨r_46, 2, none⟩)) (by kernel_rfl)) ?_
                  refine K.RW.q rfl rfl (K.QR.ld1 (v := .int .u64 ((y.getD 0 d3).new)) rfl rfl (by kernel_rfl) (b_73.cell rfl)) ?_
                  by_cases h_152 : ((x.getD 0 d3).old : Int) = ((y.getD 0 d3).new : Int)
                  ·  -- yes
                    refine K.RW.q rfl rfl (K.QR.nice (v := .bool (((x.getD 0 d3).old : Int) != ((y.getD 0 d3).new : Int))) (by kernel_rfl) (congrArg Value.bool (bne_eq_false_iff_eq.2 h_152))) ?_
                    refine K.RW.q rfl rfl (K.QR.k (v := .bool false) (by kernel_rfl)) ?_
                    refine K.RW.nil ?_
                    refine K.thn_normal ?_
                    refine K.KW.ifF rfl ?_
                    refine K.KW.skip ?_
                    refine K.blk_normal ?_
                    refine K.thn_normal ?_
                    -- region 14 diff.go:88
                    refine K.KW.drawn (fun w => K.Chg K.No w0 w) (by kernel_rfl) ?_
                    intro w_153 e_154 hs_155
                    have c_157 := c_74.no e_154
                    have z_158 := c_157.size
                    have f_159 := f_76.no e_154
                    have f_160 := f_77.no e_154
                    have f_161 := b_73.no e_154
                    have hS_156 : (fun w => K.Chg K.No w0 w) w_153 := c_157
                    refine K.DW.q 0 (by kernel_rfl) rfl rfl (by kernel_rfl) rfl (fun w hS => K.QR.k (v := .slice (some ⟨b_33, of_34, none⟩) x.length cx) (by kernel_rfl)) hS_156 ?_
                    have sl_162 := K.RowE.drop (c := chgC) (d := d3) (L := x) (cap := cx) p_27 1 (by omega) (by omega)
                    have n_163 : (x.drop 1).length = x.length - 1 := List.length_drop
                    refine K.DW.q 1 (by kernel_rfl) rfl rfl (by kernel_rfl) rfl (fun w hS => K.QR.slLo (size := 3) (m := x.length) (k := ((x.drop 1).length)) 1 rfl rfl rfl Try.underlying42 (by kernel_rfl) (by omega) (by omega)) hS_156 ?_
                    refine K.DW.q 2 (by kernel_rfl) rfl rfl (by kernel_rfl) rfl (fun w hS => K.QR.k (v := .slice (some ⟨b_35, of_36, none⟩) y.length cy) (by kernel_rfl)) hS_156 ?_
                    have sl_164 := K.RowE.drop (c := chgC) (d := d3) (L := y) (cap := cy) p_28 1 (by omega) (by omega)
                    have n_165 : (y.drop 1).length = y.length - 1 := List.length_drop
                    refine K.DW.q 3 (by kernel_rfl) rfl rfl (by kernel_rfl) rfl (fun w hS => K.QR.slLo (size := 3) (m := y.length) (k := ((y.drop 1).length)) 1 rfl rfl rfl Try.underlying42 (by kernel_rfl) (by omega) (by omega)) hS_156 ?_
                    refine K.DW.q 4 (by kernel_rfl) rfl rfl (by kernel_rfl) rfl (fun w hS => K.QR.k (v := .slice (K.shift (some ⟨b_33, of_34, none⟩) cx 1 3) ((x.drop 1).length) (cx - 1)) (by kernel_rfl)) hS_156 ?_
                    refine K.DW.q 5 (by kernel_rfl) rfl rfl (by kernel_rfl) rfl (fun w hS => K.QR.k (v := .slice (K.shift (some ⟨b_35, of_36, none⟩) cy 1 3) ((y.drop 1).length) (cy - 1)) (by kernel_rfl)) hS_156 ?_
                    refine K.DW.done (by kernel_rfl) ?_
                    refine K.blk_normal ?_
                    refine K.thn_normal ?_
                    refine ⟨_, ?_, (x.drop 1), (y.drop 1), (K.shift (some ⟨b_33, of_34, none⟩) cx 1 3), (K.shift (some ⟨b_35, of_36, none⟩) cy 1 3), cx - 1, cy - 1, out, r, m1, c1, rfl, ⟨by rfl, by rfl, by rfl, trivial⟩, (by omega), (by omega), (p_22), (by omega), (by first | exact mK_lt (by assumption) (by omega) (by omega) (by omega) | exact mK_gt (by assumption) (by omega) (by omega) (by omega) | exact mK_eq (by assumption) (by omega) (by omega) (by omega) (by assumption) (by assumption) | exact mK_away (by assumption) (by omega) (by omega) (by omega) (by assumption) (by assumption)), (by assumption), (by assumption), (sl_162), (sl_164), c_157, f_159⟩
                    omega
                  ·  -- no
                    refine K.RW.q rfl rfl (K.QR.nice (v := .bool (((x.getD 0 d3).old : Int) != ((y.getD 0 d3).new : Int))) (by kernel_rfl) (congrArg Value.bool (bne_iff_ne.2 h_152))) ?_
                    refine K.RW.q rfl rfl (K.QR.k (v := .bool true) (by kernel_rfl)) ?_
                    refine K.RW.nil ?_
                    refine K.thn_normal ?_
                    refine K.KW.ifT rfl ?_
                    -- region 13 diff.go:86
                    refine K.KW.region ?_
                    refine K.RW.q rfl rfl (K.QR.k (v := .slice r m1 c1) (by kernel_rfl)) ?_
                    refine K.RW.q rfl rfl (K.QR.k (v := .pointer (some ⟨r_45, 0, none⟩)) (by kernel_rfl)) ?_
                    refine K.RW.q rfl rfl (K.QR.ld1 (v := .int .i64 ((x.getD 0 d3).at_)) rfl rfl (by kernel_rfl) (f_77.cell rfl)) ?_
                    refine K.RW.q rfl rfl (K.QR.k (v := .pointer (some ⟨r_45, 1, none⟩)) (by kernel_rfl)) ?_
                    refine K.RW.q rfl rfl (K.QR.ld1 (v := .int .u64 ((x.getD 0 d3).old)) rfl rfl (by kernel_rfl) (f_77.cell rfl)) ?_
                    refine K.RW.q rfl rfl (K.QR.k (v := .pointer (some ⟨r_46, 2, none⟩)) (by kernel_rfl)) ?_
                    refine K.RW.q rfl rfl (K.QR.ld1 (v := .int .u64 ((y.getD 0 d3).new)) rfl rfl (by kernel_rfl) (b_73.cell rfl)) ?_
                    refine K.RW.q rfl rfl (K.QR.bd [(0, .int .i64 ((x.getD 0 d3).at_)), (1, .int .u64 ((x.getD 0 d3).old)), (2, .int .u64 ((y.getD 0 d3).new))] [.int .i64 ((x.getD 0 d3).at_), .int .u64 ((x.getD 0 d3).old), .int .u64 ((y.getD 0 d3).new)] rfl rfl (by kernel_rfl)) ?_
                    refine K.RW.l rfl (K.OW.bs rfl [(0, .agg #[.int .i64 ((x.getD 0 d3).at_), .int .u64 ((x.getD 0 d3).old), .int .u64 ((y.getD 0 d3).new)])] [.int .i64 ((x.getD 0 d3).at_), .int .u64 ((x.getD 0 d3).old), .int .u64 ((y.getD 0 d3).new)] rfl rfl (fun w => K.bs_run (P := Try.prog) w 42 46 1 _ _ Try.underlying42 (by kernel_rfl)) ?_) 
                    intro w_166 r_167 hr_168 e_169 hs_170 b_171
                    have c_172 := c_74.no e_169
                    have z_173 := c_172.size
                    have f_174 := f_76.no e_169
                    have f_175 := f_77.no e_169
                    have f_176 := b_73.no e_169
                    have ap_177 : ∀ k, K.Ow r k → ¬ k = r_167 := fun k hk he => absurd (f_76.lt k hk) (by omega)
                    refine K.RW.l rfl (K.OW.app (P := Try.prog) (xs := (out).flatMap chgC) (z := .agg #[.int .i64 0, .int .u64 0, .int .u64 0]) (size := 3) (bytes := 24) rfl [.int .i64 ((x.getD 0 d3).at_), .int .u64 ((x.getD 0 d3).old), .int .u64 ((y.getD 0 d3).new)] rfl rfl f_174 rfl Try.underlying42 (by kernel_rfl) rfl (by decide) (by rfl) (fun j u hj => (by rw [Nat.zero_add]; exact b_171.cell hj)) (K.one_cells (by rfl)) (by unfold maxLen; omega) (by omega) (by omega) ?_) 
                    intro a_178 cap_179 w_180 e_181 o_182
                    have c_183 := c_172.trans e_181 (fun i hi hy => absurd (f_174.base_le i hy) (by omega))
                    have z_184 := c_183.size
                    have f_185 := f_175.chg e_181 (fun hk => ap_58 _ hk rfl)
                    have f_186 := f_176.chg e_181 (fun hk => ap_59 _ hk rfl)
                    have o_182t := K.Own.snoc (c := chgC) (L := out) (⟨(x.getD 0 d3).at_, (x.getD 0 d3).old, (y.getD 0 d3).new⟩ : Chg3) rfl o_182
                    have ln_187 : ((out ++ [(⟨(x.getD 0 d3).at_, (x.getD 0 d3).old, (y.getD 0 d3).new⟩ : Chg3)])).length = m1 + 1 := by rw [List.length_append, p_22]; rfl
                    refine K.RW.q rfl rfl (K.QR.k (v := .slice a_178 (m1 + 1) cap_179) (by kernel_rfl)) ?_
                    refine K.RW.nil ?_
                    refine K.blk_normal ?_
                    refine K.thn_normal ?_
                    -- region 14 diff.go:88
                    refine K.KW.drawn (fun w => K.Chg K.No w0 w) (by kernel_rfl) ?_
                    intro w_188 e_189 hs_190
                    have c_192 := c_183.no e_189
                    have z_193 := c_192.size
                    have f_194 := f_185.no e_189
                    have f_195 := f_186.no e_189
                    have f_196 := o_182t.no e_189
                    have hS_191 : (fun w => K.Chg K.No w0 w) w_188 := c_192
                    refine K.DW.q 0 (by kernel_rfl) rfl rfl (by kernel_rfl) rfl (fun w hS => K.QR.k (v := .slice (some ⟨b_33, of_34, none⟩) x.length cx) (by kernel_rfl)) hS_191 ?_
                    have sl_197 := K.RowE.drop (c := chgC) (d := d3) (L := x) (cap := cx) p_27 1 (by omega) (by omega)
                    have n_198 : (x.drop 1).length = x.length - 1 := List.length_drop
                    refine K.DW.q 1 (by kernel_rfl) rfl rfl (by kernel_rfl) rfl (fun w hS => K.QR.slLo (size := 3) (m := x.length) (k := ((x.drop 1).length)) 1 rfl rfl rfl Try.underlying42 (by kernel_rfl) (by omega) (by omega)) hS_191 ?_
                    refine K.DW.q 2 (by kernel_rfl) rfl rfl (by kernel_rfl) rfl (fun w hS => K.QR.k (v := .slice (some ⟨b_35, of_36, none⟩) y.length cy) (by kernel_rfl)) hS_191 ?_
                    have sl_199 := K.RowE.drop (c := chgC) (d := d3) (L := y) (cap := cy) p_28 1 (by omega) (by omega)
                    have n_200 : (y.drop 1).length = y.length - 1 := List.length_drop
                    refine K.DW.q 3 (by kernel_rfl) rfl rfl (by kernel_rfl) rfl (fun w hS => K.QR.slLo (size := 3) (m := y.length) (k := ((y.drop 1).length)) 1 rfl rfl rfl Try.underlying42 (by kernel_rfl) (by omega) (by omega)) hS_191 ?_
                    refine K.DW.q 4 (by kernel_rfl) rfl rfl (by kernel_rfl) rfl (fun w hS => K.QR.k (v := .slice (K.shift (some ⟨b_33, of_34, none⟩) cx 1 3) ((x.drop 1).length) (cx - 1)) (by kernel_rfl)) hS_191 ?_
                    refine K.DW.q 5 (by kernel_rfl) rfl rfl (by kernel_rfl) rfl (fun w hS => K.QR.k (v := .slice (K.shift (some ⟨b_35, of_36, none⟩) cy 1 3) ((y.drop 1).length) (cy - 1)) (by kernel_rfl)) hS_191 ?_
                    refine K.DW.done (by kernel_rfl) ?_
                    refine K.blk_normal ?_
                    refine K.thn_normal ?_
                    refine ⟨_, ?_, (x.drop 1), (y.drop 1), (K.shift (some ⟨b_33, of_34, none⟩) cx 1 3), (K.shift (some ⟨b_35, of_36, none⟩) cy 1 3), cx - 1, cy - 1, (out ++ [(⟨(x.getD 0 d3).at_, (x.getD 0 d3).old, (y.getD 0 d3).new⟩ : Chg3)]), a_178, m1 + 1, cap_179, rfl, ⟨by rfl, by rfl, by rfl, trivial⟩, (by omega), (by omega), (ln_187), (by omega), (by first | exact mK_lt (by assumption) (by omega) (by omega) (by omega) | exact mK_gt (by assumption) (by omega) (by omega) (by omega) | exact mK_eq (by assumption) (by omega) (by omega) (by omega) (by assumption) (by assumption) | exact mK_away (by assumption) (by omega) (by omega) (by omega) (by assumption) (by assumption)), (by assumption), (by assumption), (sl_197), (sl_199), c_192, f_196⟩
                    omega
                ·  -- no
                  refine K.RW.q rfl rfl (K.QR.nice (v := .bool (((x.getD 0 d3).new : Int) != ((y.getD 0 d3).old : Int))) (by kernel_rfl) (congrArg Value.bool (bne_iff_ne.2 h_151))) ?_
                  refine K.RW.q rfl rfl (K.QR.k (v := .bool true) (by kernel_rfl)) ?_
                  refine K.RW.nil ?_
                  refine K.thn_normal ?_
                  refine K.KW.ifT rfl ?_
                  refine K.KW.seq ?_
                  -- region 11 diff.go:84
                  refine K.KW.region ?_
                  refine K.RW.q rfl rfl (K.QR.k (v := .slice none 0 0) (by kernel_rfl)) ?_
                  refine K.RW.q rfl rfl (K.QR.k (v := .int .i64 9) (by kernel_rfl)) ?_
                  refine K.RW.nil ?_
                  refine K.thn_normal ?_
                  refine K.KW.ret ?_
                  refine K.blk_ret ?_
                  refine K.thn_ret ?_
                  refine K.blk_ret ?_
                  refine K.thn_ret ?_
                  refine K.blk_ret ?_
                  refine K.thn_ret ?_
                  refine K.sco_ret ?_
                  refine ⟨.inr rfl, (.tuple #[.slice none 0 0, .int .i64 9]), K.res2 rfl rfl rfl, ?_⟩
                  rw [joinR_9 (by assumption) (by assumption) (mK_no (by assumption) (by omega) (by omega) (by omega) (by assumption))]
                  exact ⟨_, _, _, rfl, c_74, K.Own.nil _ _ _ _, rfl⟩
          ·  -- no
            refine K.RW.q rfl (by kernel_rfl) (K.QR.nice (v := .bool (decide ((((y.length : Nat) : Int) : Int) > (0 : Int)))) (by kernel_rfl) (congrArg Value.bool (decide_eq_false h_32))) ?_
            refine K.RW.q rfl rfl (K.QR.k (v := .bool false) (by kernel_rfl)) ?_
            refine K.RW.nil ?_
            refine K.thn_normal ?_
            refine K.KW.ifF rfl ?_
            refine K.KW.exit ?_
            refine K.thn_exit ?_
            refine K.thn_exit ?_
            refine K.blk_hit ?_
            refine K.thn_normal ?_
            refine K.KW.seq ?_
            -- region 15 diff.go:90
            refine K.KW.region ?_
            refine K.RW.q rfl rfl (K.QR.k (v := .slice r m1 c1) (by kernel_rfl)) ?_
            refine K.RW.q rfl rfl (K.QR.k (v := .slice p x.length cx) (by kernel_rfl)) ?_
            refine K.RW.q rfl rfl (K.QR.k (v := .slice q y.length cy) (by kernel_rfl)) ?_
            refine K.RW.l rfl (K.OW.bs rfl [(0, .slice r m1 c1), (1, .slice p x.length cx), (2, .slice q y.length cy)] [.slice r m1 c1, .slice p x.length cx, .slice q y.length cy] rfl rfl (fun w => K.bs_run (P := Try.prog) w 112 42 3 _ _ Try.underlying112 (by kernel_rfl)) ?_) 
            intro w_201 r_202 hr_203 e_204 hs_205 b_206
            have c_207 := c_19.no e_204
            have z_208 := c_207.size
            have f_209 := f_29.no e_204
            obtain rfl := p_22
            refine K.RW.l rfl (K.OW.call rfl [.slice (some ⟨r_202, 0, none⟩) 3 3] rfl rfl (by kernel_rfl) (concatCh_ok _ _ _ _ _ _ _ out x y _ (by first | omega | (simp; omega) | (simp; done)) b_206 (K.Own.rowE d3 f_209 rfl (fun _ => rfl)) (p_27.no c_207) (p_28.no c_207)) ?_) 
            rintro _ w_216 ⟨r_210, m_211, cc_212, rfl, c_213, o_214, rfl⟩
            have c_217 := c_207.no c_213
            have z_218 := c_217.size
            have f_219 := f_209.no c_213
            have f_220 := b_206.no c_213
            have o_221 := K.Own.mono (base' := w0.heap.size) o_214 (by omega)
            refine K.RW.q rfl rfl (K.QR.k (v := .slice r_210 ((out ++ x ++ y).length) cc_212) (by kernel_rfl)) ?_
            refine K.RW.q rfl rfl (K.QR.k (v := .int .i64 0) (by kernel_rfl)) ?_
            refine K.RW.nil ?_
            refine K.thn_normal ?_
            refine K.KW.ret ?_
            refine K.sco_ret ?_
            refine ⟨.inr rfl, (.tuple #[.slice r_210 ((out ++ x ++ y).length) cc_212, .int .i64 0]), K.res2 rfl rfl rfl, ?_⟩
            rw [joinR_0 (by assumption) (by assumption) (mK_end (by assumption) (by omega))]
            exact ⟨_, _, _, rfl, c_217, o_221, rfl⟩
        ·  -- no
          refine K.RW.q rfl rfl (K.QR.nice (v := .bool (decide ((((x.length : Nat) : Int) : Int) > (0 : Int)))) (by kernel_rfl) (congrArg Value.bool (decide_eq_false h_31))) ?_
          refine K.RW.q rfl rfl (K.QR.k (v := .bool false) (by kernel_rfl)) ?_
          refine K.RW.skip rfl (by kernel_rfl) ?_
          refine K.RW.skip rfl (by kernel_rfl) ?_
          refine K.RW.skip rfl (by kernel_rfl) ?_
          refine K.RW.q rfl rfl (K.QR.k (v := .bool false) (by kernel_rfl)) ?_
          refine K.RW.nil ?_
          refine K.thn_normal ?_
          refine K.KW.ifF rfl ?_
          refine K.KW.exit ?_
          refine K.thn_exit ?_
          refine K.thn_exit ?_
          refine K.blk_hit ?_
          refine K.thn_normal ?_
          refine K.KW.seq ?_
          -- region 15 diff.go:90
          refine K.KW.region ?_
          refine K.RW.q rfl rfl (K.QR.k (v := .slice r m1 c1) (by kernel_rfl)) ?_
          refine K.RW.q rfl rfl (K.QR.k (v := .slice p x.length cx) (by kernel_rfl)) ?_
          refine K.RW.q rfl rfl (K.QR.k (v := .slice q y.length cy) (by kernel_rfl)) ?_
          refine K.RW.l rfl (K.OW.bs rfl [(0, .slice r m1 c1), (1, .slice p x.length cx), (2, .slice q y.length cy)] [.slice r m1 c1, .slice p x.length cx, .slice q y.length cy] rfl rfl (fun w => K.bs_run (P := Try.prog) w 112 42 3 _ _ Try.underlying112 (by kernel_rfl)) ?_) 
          intro w_222 r_223 hr_224 e_225 hs_226 b_227
          have c_228 := c_19.no e_225
          have z_229 := c_228.size
          have f_230 := f_29.no e_225
          obtain rfl := p_22
          refine K.RW.l rfl (K.OW.call rfl [.slice (some ⟨r_223, 0, none⟩) 3 3] rfl rfl (by kernel_rfl) (concatCh_ok _ _ _ _ _ _ _ out x y _ (by first | omega | (simp; omega) | (simp; done)) b_227 (K.Own.rowE d3 f_230 rfl (fun _ => rfl)) (p_27.no c_228) (p_28.no c_228)) ?_) 
          rintro _ w_237 ⟨r_231, m_232, cc_233, rfl, c_234, o_235, rfl⟩
          have c_238 := c_228.no c_234
          have z_239 := c_238.size
          have f_240 := f_230.no c_234
          have f_241 := b_227.no c_234
          have o_242 := K.Own.mono (base' := w0.heap.size) o_235 (by omega)
          refine K.RW.q rfl rfl (K.QR.k (v := .slice r_231 ((out ++ x ++ y).length) cc_233) (by kernel_rfl)) ?_
          refine K.RW.q rfl rfl (K.QR.k (v := .int .i64 0) (by kernel_rfl)) ?_
          refine K.RW.nil ?_
          refine K.thn_normal ?_
          refine K.KW.ret ?_
          refine K.sco_ret ?_
          refine ⟨.inr rfl, (.tuple #[.slice r_231 ((out ++ x ++ y).length) cc_233, .int .i64 0]), K.res2 rfl rfl rfl, ?_⟩
          rw [joinR_0 (by assumption) (by assumption) (mK_end (by assumption) (by omega))]
          exact ⟨_, _, _, rfl, c_238, o_242, rfl⟩
    ·  -- False
      rw [hb_14] at hv_10; subst hv_10
      refine K.RW.q rfl (by kernel_rfl) (K.QR.k (v := .bool true) (by kernel_rfl)) ?_
      refine K.RW.q rfl rfl (K.QR.k (v := .bool true) (by kernel_rfl)) ?_
      refine K.RW.nil ?_
      refine K.thn_normal ?_
      refine K.KW.ifT rfl ?_
      refine K.KW.seq ?_
      -- region 2 diff.go:70
      refine K.KW.region ?_
      refine K.RW.q rfl rfl (K.QR.k (v := .slice none 0 0) (by kernel_rfl)) ?_
      refine K.RW.q rfl rfl (K.QR.k (v := .int .i64 3) (by kernel_rfl)) ?_
      refine K.RW.nil ?_
      refine K.thn_normal ?_
      refine K.KW.ret ?_
      refine K.thn_ret ?_
      refine K.sco_ret ?_
      refine ⟨.inr rfl, (.tuple #[.slice none 0 0, .int .i64 3]), K.res2 rfl rfl rfl, ?_⟩
      rw [joinR_3 (by rintro ⟨h1, h2⟩; simp_all)]
      exact ⟨_, _, _, rfl, c_12, K.Own.nil _ _ _ _, rfl⟩
  ·  -- False
    rw [hb_7] at hv_3; subst hv_3
    refine K.RW.q rfl rfl (K.QR.k (v := .bool true) (by kernel_rfl)) ?_
    refine K.RW.q rfl rfl (K.QR.k (v := .bool true) (by kernel_rfl)) ?_
    refine K.RW.skip rfl (by kernel_rfl) ?_
    refine K.RW.skip rfl (by kernel_rfl) ?_
    refine K.RW.skip rfl (by kernel_rfl) ?_
    refine K.RW.q rfl rfl (K.QR.k (v := .bool true) (by kernel_rfl)) ?_
    refine K.RW.nil ?_
    refine K.thn_normal ?_
    refine K.KW.ifT rfl ?_
    refine K.KW.seq ?_
    -- region 2 diff.go:70
    refine K.KW.region ?_
    refine K.RW.q rfl rfl (K.QR.k (v := .slice none 0 0) (by kernel_rfl)) ?_
    refine K.RW.q rfl rfl (K.QR.k (v := .int .i64 3) (by kernel_rfl)) ?_
    refine K.RW.nil ?_
    refine K.thn_normal ?_
    refine K.KW.ret ?_
    refine K.thn_ret ?_
    refine K.sco_ret ?_
    refine ⟨.inr rfl, (.tuple #[.slice none 0 0, .int .i64 3]), K.res2 rfl rfl rfl, ?_⟩
    rw [joinR_3 (by rintro ⟨h1, h2⟩; simp_all)]
    exact ⟨_, _, _, rfl, c_5, K.Own.nil _ _ _ _, rfl⟩

set_option maxHeartbeats 1000000 in
set_option maxRecDepth 100000 in
theorem least_ok (a b : Option Addr) (cap cap' : Nat) (l m : List Chg3) (above : Int) (w0 : World) (hm1 : l.length ≤ 9223372036854775806) (hm2 : m.length ≤ 9223372036854775806) (ha : -1 ≤ above) (hl : RCh w0 a l) (hk : RCh w0 b m) :
    K.KC Try.prog 67 #[.slice a l.length cap, .slice b m.length cap', .int .i64 above] w0 (fun v w' => K.Chg K.No w0 w' ∧ ((v = .int .i64 (-1) ∧ noneP l m above) ∨ (∃ z, v = .int .i64 z ∧ leastP l m above z ∧ ((∃ k, k < l.length ∧ (l.getD k d3).at_ = z) ∨ (∃ k, k < m.length ∧ (m.getD k d3).at_ = z))))) := by
  refine K.KC.mk (n := 73) Try.func67 rfl rfl [.slice a l.length cap, .slice b m.length cap', .int .i64 above] rfl rfl ?_
  refine K.KW.seq ?_
  -- region 0 ref.go:57
  refine K.KW.region ?_
  refine K.RW.q rfl rfl (K.QR.k (v := .int .i64 0) (by kernel_rfl)) ?_
  refine K.RW.nil ?_
  refine K.thn_normal ?_
  refine K.KW.seq ?_
  -- region 1 ref.go:58
  refine K.KW.region ?_
  refine K.RW.q rfl rfl (K.QR.k (v := .int .i64 (-1)) (by kernel_rfl)) ?_
  refine K.RW.nil ?_
  refine K.thn_normal ?_
  refine K.KW.seq ?_
  refine K.KW.seq ?_
  -- region 2 ref.go:59
  refine K.KW.region ?_
  refine K.RW.q rfl rfl (K.QR.k (v := .int .i64 0) (by kernel_rfl)) ?_
  refine K.RW.nil ?_
  refine K.thn_normal ?_
  refine K.KW.block ?_
  refine K.KW.loop (fun m_ F_ w_1 => ∃ (i : Nat) (best : Int), m_ = l.length - i ∧ K.Sl F_ [(0, .slice a l.length cap), (1, .slice b m.length cap'), (2, .int .i64 above), (6, .int .i64 0), (7, .int .i64 best), (8, .int .i64 ((i : Nat) : Int))] ∧ i ≤ l.length ∧ LB l m above i 0 best ∧ K.Chg K.No w0 w_1) ((fun (i : Nat) (best : Int) => l.length - i) 0 (-1)) ?_ ?_
  · -- the loop begins
    exact ⟨0, (-1), rfl, ⟨by rfl, by rfl, by rfl, by rfl, by rfl, by rfl, trivial⟩, (by omega), (LB_zero l m above), (K.Chg.refl _)⟩
  · -- a round
    intro m_2 F_3 w_1 hI
    obtain ⟨i, best, rfl, sl_4, p_6, p_7, c_5⟩ := hI
    rw [← K.Sl.puts sl_4]; clear sl_4
    have z_8 := c_5.size
    refine K.KW.seq ?_
    refine K.KW.seq ?_
    -- region 3 ref.go:59
    refine K.KW.region ?_
    refine K.RW.q rfl rfl (K.QR.k (v := .int .i64 ((i : Nat) : Int)) (by kernel_rfl)) ?_
    refine K.RW.q rfl rfl (K.QR.k (v := .slice a l.length cap) (by kernel_rfl)) ?_
    refine K.RW.q rfl rfl (K.QR.len (P := Try.prog) rfl rfl Try.underlying53) ?_
    by_cases h_9 : (((i : Nat) : Int) : Int) < (((l.length : Nat) : Int) : Int)
    ·  -- yes
      refine K.RW.q rfl rfl (K.QR.nice (v := .bool (decide ((((i : Nat) : Int) : Int) < (((l.length : Nat) : Int) : Int)))) (by kernel_rfl) (congrArg Value.bool (decide_eq_true h_9))) ?_
      refine K.RW.nil ?_
      refine K.thn_normal ?_
      refine K.KW.ifT rfl ?_
      refine K.KW.skip ?_
      refine K.thn_normal ?_
      refine K.KW.seq ?_
      refine K.KW.block ?_
      refine K.KW.seq ?_
      -- region 5 ref.go:60
      obtain ⟨b_10, of_11, rfl, _⟩ := hl.at_ (by omega)
      refine K.KW.region ?_
      refine K.RW.q rfl rfl (K.QR.k (v := .slice (some ⟨b_10, of_11, none⟩) l.length cap) (by kernel_rfl)) ?_
      refine K.RW.q rfl rfl (K.QR.k (v := .int .i64 ((i : Nat) : Int)) (by kernel_rfl)) ?_
      refine K.RW.q rfl rfl (K.QR.ix (of_11 + i * 3) 3 rfl rfl rfl Try.underlying53 (by kernel_rfl) (by omega) (by simp)) ?_
      refine K.RW.q rfl rfl (K.QR.k (v := .pointer (some ⟨b_10, of_11 + i * 3, none⟩)) (by kernel_rfl)) ?_
      refine K.RW.q rfl rfl (K.QR.ld1 (v := .int .i64 ((l.getD i d3).at_)) rfl rfl (by kernel_rfl) (c_5.cell (hl.ld i (by omega) 0 _ rfl) id)) ?_
      refine K.RW.q rfl rfl (K.QR.k (v := .int .i64 above) (by kernel_rfl)) ?_
      by_cases h_12 : ((l.getD i d3).at_ : Int) > (above : Int)
      ·  -- yes
        refine K.RW.q rfl rfl (K.QR.nice (v := .bool (decide (((l.getD i d3).at_ : Int) > (above : Int)))) (by kernel_rfl) (congrArg Value.bool (decide_eq_true h_12))) ?_
        refine K.RW.q rfl rfl (K.QR.k (v := .bool true) (by kernel_rfl)) ?_
        refine K.RW.q rfl (by kernel_rfl) (K.QR.k (v := .int .i64 best) (by kernel_rfl)) ?_
        by_cases h_13 : (best : Int) < (0 : Int)
        ·  -- yes
          refine K.RW.q rfl (by kernel_rfl) (K.QR.nice (v := .bool (decide ((best : Int) < (0 : Int)))) (by kernel_rfl) (congrArg Value.bool (decide_eq_true h_13))) ?_
          refine K.RW.q rfl (by kernel_rfl) (K.QR.k (v := .bool true) (by kernel_rfl)) ?_
          refine K.RW.skip rfl (by kernel_rfl) ?_
          refine K.RW.skip rfl (by kernel_rfl) ?_
          refine K.RW.skip rfl (by kernel_rfl) ?_
          refine K.RW.skip rfl (by kernel_rfl) ?_
          refine K.RW.skip rfl (by kernel_rfl) ?_
          refine K.RW.skip rfl (by kernel_rfl) ?_
          refine K.RW.skip rfl (by kernel_rfl) ?_
          refine K.RW.q rfl (by kernel_rfl) (K.QR.k (v := .bool true) (by kernel_rfl)) ?_
          refine K.RW.q rfl rfl (K.QR.k (v := .bool true) (by kernel_rfl)) ?_
          refine K.RW.nil ?_
          refine K.thn_normal ?_
          refine K.KW.ifT rfl ?_
          -- region 6 ref.go:61
          refine K.KW.region ?_
          refine K.RW.q rfl rfl (K.QR.k (v := .slice (some ⟨b_10, of_11, none⟩) l.length cap) (by kernel_rfl)) ?_
          refine K.RW.q rfl rfl (K.QR.k (v := .int .i64 ((i : Nat) : Int)) (by kernel_rfl)) ?_
          refine K.RW.q rfl rfl (K.QR.ix (of_11 + i * 3) 3 rfl rfl rfl Try.underlying53 (by kernel_rfl) (by omega) (by simp)) ?_
          refine K.RW.q rfl rfl (K.QR.k (v := .pointer (some ⟨b_10, of_11 + i * 3, none⟩)) (by kernel_rfl)) ?_
          refine K.RW.q rfl rfl (K.QR.ld1 (v := .int .i64 ((l.getD i d3).at_)) rfl rfl (by kernel_rfl) (c_5.cell (hl.ld i (by omega) 0 _ rfl) id)) ?_
          refine K.RW.q rfl rfl (K.QR.k (v := .int .i64 ((l.getD i d3).at_)) (by kernel_rfl)) ?_
          refine K.RW.nil ?_
          refine K.blk_normal ?_
          refine K.thn_normal ?_
          -- region 4 ref.go:59
          refine K.KW.region ?_
          refine K.RW.q rfl rfl (K.QR.k (v := .int .i64 ((i : Nat) : Int)) (by kernel_rfl)) ?_
          refine K.RW.q rfl rfl (K.QR.n64 ((((i : Nat) : Int) : Int) + (1 : Int)) ((i + 1 : Nat) : Int) (by kernel_rfl) (by omega)) ?_
          refine K.RW.q rfl rfl (K.QR.k (v := .int .i64 ((i + 1 : Nat) : Int)) (by kernel_rfl)) ?_
          refine K.RW.nil ?_
          refine K.thn_normal ?_
          refine ⟨_, ?_, i + 1, (l.getD i d3).at_, rfl, ⟨by rfl, by rfl, by rfl, by rfl, by rfl, by rfl, trivial⟩, (by omega), (LB_i ha (by assumption) (by omega) (by omega)), c_5⟩
          omega
        ·  -- no
          refine K.RW.q rfl (by kernel_rfl) (K.QR.nice (v := .bool (decide ((best : Int) < (0 : Int)))) (by kernel_rfl) (congrArg Value.bool (decide_eq_false h_13))) ?_
          refine K.RW.q rfl (by kernel_rfl) (K.QR.k (v := .bool false) (by kernel_rfl)) ?_
          refine K.RW.q rfl (by kernel_rfl) (K.QR.k (v := .slice (some ⟨b_10, of_11, none⟩) l.length cap) (by kernel_rfl)) ?_
          refine K.RW.q rfl (by kernel_rfl) (K.QR.k (v := .int .i64 ((i : Nat) : Int)) (by kernel_rfl)) ?_
          refine K.RW.q rfl (by kernel_rfl) (K.QR.ix (of_11 + i * 3) 3 rfl rfl rfl Try.underlying53 (by kernel_rfl) (by omega) (by simp)) ?_
          refine K.RW.q rfl (by kernel_rfl) (K.QR.k (v := .pointer (some ⟨b_10, of_11 + i * 3, none⟩)) (by kernel_rfl)) ?_
          refine K.RW.q rfl (by kernel_rfl) (K.QR.ld1 (v := .int .i64 ((l.getD i d3).at_)) rfl rfl (by kernel_rfl) (c_5.cell (hl.ld i (by omega) 0 _ rfl) id)) ?_
          refine K.RW.q rfl (by kernel_rfl) (K.QR.k (v := .int .i64 best) (by kernel_rfl)) ?_
          by_cases h_14 : ((l.getD i d3).at_ : Int) < (best : Int)
          ·  -- yes
            refine K.RW.q rfl (by kernel_rfl) (K.QR.nice (v := .bool (decide (((l.getD i d3).at_ : Int) < (best : Int)))) (by kernel_rfl) (congrArg Value.bool (decide_eq_true h_14))) ?_
            refine K.RW.q rfl (by kernel_rfl) (K.QR.k (v := .bool true) (by kernel_rfl)) ?_
            refine K.RW.q rfl rfl (K.QR.k (v := .bool true) (by kernel_rfl)) ?_
            refine K.RW.nil ?_
            refine K.thn_normal ?_
            refine K.KW.ifT rfl ?_
            -- region 6 ref.go:61
            refine K.KW.region ?_
            refine K.RW.q rfl rfl (K.QR.k (v := .slice (some ⟨b_10, of_11, none⟩) l.length cap) (by kernel_rfl)) ?_
            refine K.RW.q rfl rfl (K.QR.k (v := .int .i64 ((i : Nat) : Int)) (by kernel_rfl)) ?_
            refine K.RW.q rfl rfl (K.QR.ix (of_11 + i * 3) 3 rfl rfl rfl Try.underlying53 (by kernel_rfl) (by omega) (by simp)) ?_
            refine K.RW.q rfl rfl (K.QR.k (v := .pointer (some ⟨b_10, of_11 + i * 3, none⟩)) (by kernel_rfl)) ?_
            refine K.RW.q rfl rfl (K.QR.ld1 (v := .int .i64 ((l.getD i d3).at_)) rfl rfl (by kernel_rfl) (c_5.cell (hl.ld i (by omega) 0 _ rfl) id)) ?_
            refine K.RW.q rfl rfl (K.QR.k (v := .int .i64 ((l.getD i d3).at_)) (by kernel_rfl)) ?_
            refine K.RW.nil ?_
            refine K.blk_normal ?_
            refine K.thn_normal ?_
            -- region 4 ref.go:59
            refine K.KW.region ?_
            refine K.RW.q rfl rfl (K.QR.k (v := .int .i64 ((i : Nat) : Int)) (by kernel_rfl)) ?_
            refine K.RW.q rfl rfl (K.QR.n64 ((((i : Nat) : Int) : Int) + (1 : Int)) ((i + 1 : Nat) : Int) (by kernel_rfl) (by omega)) ?_
            refine K.RW.q rfl rfl (K.QR.k (v := .int .i64 ((i + 1 : Nat) : Int)) (by kernel_rfl)) ?_
            refine K.RW.nil ?_
            refine K.thn_normal ?_
            refine ⟨_, ?_, i + 1, (l.getD i d3).at_, rfl, ⟨by rfl, by rfl, by rfl, by rfl, by rfl, by rfl, trivial⟩, (by omega), (LB_i ha (by assumption) (by omega) (by omega)), c_5⟩
            omega
          ·  -- no
            refine K.RW.q rfl (by kernel_rfl) (K.QR.nice (v := .bool (decide (((l.getD i d3).at_ : Int) < (best : Int)))) (by kernel_rfl) (congrArg Value.bool (decide_eq_false h_14))) ?_
            refine K.RW.q rfl (by kernel_rfl) (K.QR.k (v := .bool false) (by kernel_rfl)) ?_
            refine K.RW.q rfl rfl (K.QR.k (v := .bool false) (by kernel_rfl)) ?_
            refine K.RW.nil ?_
            refine K.thn_normal ?_
            refine K.KW.ifF rfl ?_
            refine K.KW.skip ?_
            refine K.blk_normal ?_
            refine K.thn_normal ?_
            -- region 4 ref.go:59
            refine K.KW.region ?_
            refine K.RW.q rfl rfl (K.QR.k (v := .int .i64 ((i : Nat) : Int)) (by kernel_rfl)) ?_
            refine K.RW.q rfl rfl (K.QR.n64 ((((i : Nat) : Int) : Int) + (1 : Int)) ((i + 1 : Nat) : Int) (by kernel_rfl) (by omega)) ?_
            refine K.RW.q rfl rfl (K.QR.k (v := .int .i64 ((i + 1 : Nat) : Int)) (by kernel_rfl)) ?_
            refine K.RW.nil ?_
            refine K.thn_normal ?_
            refine ⟨_, ?_, i + 1, best, rfl, ⟨by rfl, by rfl, by rfl, by rfl, by rfl, by rfl, trivial⟩, (by omega), (LB_i ha (by assumption) (by omega) (by omega)), c_5⟩
            omega
      ·  -- no
        refine K.RW.q rfl rfl (K.QR.nice (v := .bool (decide (((l.getD i d3).at_ : Int) > (above : Int)))) (by kernel_rfl) (congrArg Value.bool (decide_eq_false h_12))) ?_
        refine K.RW.q rfl rfl (K.QR.k (v := .bool false) (by kernel_rfl)) ?_
        refine K.RW.skip rfl (by kernel_rfl) ?_
        refine K.RW.skip rfl (by kernel_rfl) ?_
        refine K.RW.skip rfl (by kernel_rfl) ?_
        refine K.RW.skip rfl (by kernel_rfl) ?_
        refine K.RW.skip rfl (by kernel_rfl) ?_
        refine K.RW.skip rfl (by kernel_rfl) ?_
        refine K.RW.skip rfl (by kernel_rfl) ?_
        refine K.RW.skip rfl (by kernel_rfl) ?_
        refine K.RW.skip rfl (by kernel_rfl) ?_
        refine K.RW.skip rfl (by kernel_rfl) ?_
        refine K.RW.skip rfl (by kernel_rfl) ?_
        refine K.RW.q rfl rfl (K.QR.k (v := .bool false) (by kernel_rfl)) ?_
        refine K.RW.nil ?_
        refine K.thn_normal ?_
        refine K.KW.ifF rfl ?_
        refine K.KW.skip ?_
        refine K.blk_normal ?_
        refine K.thn_normal ?_
        -- region 4 ref.go:59
        refine K.KW.region ?_
        refine K.RW.q rfl rfl (K.QR.k (v := .int .i64 ((i : Nat) : Int)) (by kernel_rfl)) ?_
        refine K.RW.q rfl rfl (K.QR.n64 ((((i : Nat) : Int) : Int) + (1 : Int)) ((i + 1 : Nat) : Int) (by kernel_rfl) (by omega)) ?_
        refine K.RW.q rfl rfl (K.QR.k (v := .int .i64 ((i + 1 : Nat) : Int)) (by kernel_rfl)) ?_
        refine K.RW.nil ?_
        refine K.thn_normal ?_
        refine ⟨_, ?_, i + 1, best, rfl, ⟨by rfl, by rfl, by rfl, by rfl, by rfl, by rfl, trivial⟩, (by omega), (LB_i ha (by assumption) (by omega) (by omega)), c_5⟩
        omega
    ·  -- no
      refine K.RW.q rfl rfl (K.QR.nice (v := .bool (decide ((((i : Nat) : Int) : Int) < (((l.length : Nat) : Int) : Int)))) (by kernel_rfl) (congrArg Value.bool (decide_eq_false h_9))) ?_
      refine K.RW.nil ?_
      refine K.thn_normal ?_
      refine K.KW.ifF rfl ?_
      refine K.KW.exit ?_
      refine K.thn_exit ?_
      refine K.thn_exit ?_
      refine K.blk_hit ?_
      refine K.thn_normal ?_
      refine K.KW.seq ?_
      refine K.KW.seq ?_
      -- region 7 ref.go:64
      refine K.KW.region ?_
      refine K.RW.q rfl rfl (K.QR.k (v := .int .i64 0) (by kernel_rfl)) ?_
      refine K.RW.nil ?_
      refine K.thn_normal ?_
      refine K.KW.block ?_
      refine K.KW.loop (fun m_ F_ w_15 => ∃ (j : Nat) (bes2 : Int), m_ = m.length - j ∧ K.Sl F_ [(0, .slice a l.length cap), (1, .slice b m.length cap'), (2, .int .i64 above), (6, .int .i64 0), (7, .int .i64 bes2), (9, .int .i64 ((j : Nat) : Int))] ∧ j ≤ m.length ∧ LB l m above l.length j bes2 ∧ K.Chg K.No w0 w_15) ((fun (j : Nat) (bes2 : Int) => m.length - j) 0 best) ?_ ?_
      · -- the loop begins
        exact ⟨0, best, rfl, ⟨by rfl, by rfl, by rfl, by rfl, by rfl, by rfl, trivial⟩, (by omega), (by rw [show l.length = i by omega]; assumption), c_5⟩
      · -- a round
        intro m_16 F_17 w_15 hI
        obtain ⟨j, bes2, rfl, sl_18, p_20, p_21, c_19⟩ := hI
        rw [← K.Sl.puts sl_18]; clear sl_18
        have z_22 := c_19.size
        refine K.KW.seq ?_
        refine K.KW.seq ?_
        -- region 8 ref.go:64
        refine K.KW.region ?_
        refine K.RW.q rfl rfl (K.QR.k (v := .int .i64 ((j : Nat) : Int)) (by kernel_rfl)) ?_
        refine K.RW.q rfl rfl (K.QR.k (v := .slice b m.length cap') (by kernel_rfl)) ?_
        refine K.RW.q rfl rfl (K.QR.len (P := Try.prog) rfl rfl Try.underlying53) ?_
        by_cases h_23 : (((j : Nat) : Int) : Int) < (((m.length : Nat) : Int) : Int)
        ·  -- yes
          refine K.RW.q rfl rfl (K.QR.nice (v := .bool (decide ((((j : Nat) : Int) : Int) < (((m.length : Nat) : Int) : Int)))) (by kernel_rfl) (congrArg Value.bool (decide_eq_true h_23))) ?_
          refine K.RW.nil ?_
          refine K.thn_normal ?_
          refine K.KW.ifT rfl ?_
          refine K.KW.skip ?_
          refine K.thn_normal ?_
          refine K.KW.seq ?_
          refine K.KW.block ?_
          refine K.KW.seq ?_
          -- region 10 ref.go:65
          obtain ⟨b_24, of_25, rfl, _⟩ := hk.at_ (by omega)
          refine K.KW.region ?_
          refine K.RW.q rfl rfl (K.QR.k (v := .slice (some ⟨b_24, of_25, none⟩) m.length cap') (by kernel_rfl)) ?_
          refine K.RW.q rfl rfl (K.QR.k (v := .int .i64 ((j : Nat) : Int)) (by kernel_rfl)) ?_
          refine K.RW.q rfl rfl (K.QR.ix (of_25 + j * 3) 3 rfl rfl rfl Try.underlying53 (by kernel_rfl) (by omega) (by simp)) ?_
          refine K.RW.q rfl rfl (K.QR.k (v := .pointer (some ⟨b_24, of_25 + j * 3, none⟩)) (by kernel_rfl)) ?_
          refine K.RW.q rfl rfl (K.QR.ld1 (v := .int .i64 ((m.getD j d3).at_)) rfl rfl (by kernel_rfl) (c_19.cell (hk.ld j (by omega) 0 _ rfl) id)) ?_
          refine K.RW.q rfl rfl (K.QR.k (v := .int .i64 above) (by kernel_rfl)) ?_
          by_cases h_26 : ((m.getD j d3).at_ : Int) > (above : Int)
          ·  -- yes
            refine K.RW.q rfl rfl (K.QR.nice (v := .bool (decide (((m.getD j d3).at_ : Int) > (above : Int)))) (by kernel_rfl) (congrArg Value.bool (decide_eq_true h_26))) ?_
            refine K.RW.q rfl rfl (K.QR.k (v := .bool true) (by kernel_rfl)) ?_
            refine K.RW.q rfl (by kernel_rfl) (K.QR.k (v := .int .i64 bes2) (by kernel_rfl)) ?_
            by_cases h_27 : (bes2 : Int) < (0 : Int)
            ·  -- yes
              refine K.RW.q rfl (by kernel_rfl) (K.QR.nice (v := .bool (decide ((bes2 : Int) < (0 : Int)))) (by kernel_rfl) (congrArg Value.bool (decide_eq_true h_27))) ?_
              refine K.RW.q rfl (by kernel_rfl) (K.QR.k (v := .bool true) (by kernel_rfl)) ?_
              refine K.RW.skip rfl (by kernel_rfl) ?_
              refine K.RW.skip rfl (by kernel_rfl) ?_
              refine K.RW.skip rfl (by kernel_rfl) ?_
              refine K.RW.skip rfl (by kernel_rfl) ?_
              refine K.RW.skip rfl (by kernel_rfl) ?_
              refine K.RW.skip rfl (by kernel_rfl) ?_
              refine K.RW.skip rfl (by kernel_rfl) ?_
              refine K.RW.q rfl (by kernel_rfl) (K.QR.k (v := .bool true) (by kernel_rfl)) ?_
              refine K.RW.q rfl rfl (K.QR.k (v := .bool true) (by kernel_rfl)) ?_
              refine K.RW.nil ?_
              refine K.thn_normal ?_
              refine K.KW.ifT rfl ?_
              -- region 11 ref.go:66
              refine K.KW.region ?_
              refine K.RW.q rfl rfl (K.QR.k (v := .slice (some ⟨b_24, of_25, none⟩) m.length cap') (by kernel_rfl)) ?_
              refine K.RW.q rfl rfl (K.QR.k (v := .int .i64 ((j : Nat) : Int)) (by kernel_rfl)) ?_
              refine K.RW.q rfl rfl (K.QR.ix (of_25 + j * 3) 3 rfl rfl rfl Try.underlying53 (by kernel_rfl) (by omega) (by simp)) ?_
              refine K.RW.q rfl rfl (K.QR.k (v := .pointer (some ⟨b_24, of_25 + j * 3, none⟩)) (by kernel_rfl)) ?_
              refine K.RW.q rfl rfl (K.QR.ld1 (v := .int .i64 ((m.getD j d3).at_)) rfl rfl (by kernel_rfl) (c_19.cell (hk.ld j (by omega) 0 _ rfl) id)) ?_
              refine K.RW.q rfl rfl (K.QR.k (v := .int .i64 ((m.getD j d3).at_)) (by kernel_rfl)) ?_
              refine K.RW.nil ?_
              refine K.blk_normal ?_
              refine K.thn_normal ?_
              -- region 9 ref.go:64
              refine K.KW.region ?_
              refine K.RW.q rfl rfl (K.QR.k (v := .int .i64 ((j : Nat) : Int)) (by kernel_rfl)) ?_
              refine K.RW.q rfl rfl (K.QR.n64 ((((j : Nat) : Int) : Int) + (1 : Int)) ((j + 1 : Nat) : Int) (by kernel_rfl) (by omega)) ?_
              refine K.RW.q rfl rfl (K.QR.k (v := .int .i64 ((j + 1 : Nat) : Int)) (by kernel_rfl)) ?_
              refine K.RW.nil ?_
              refine K.thn_normal ?_
              refine ⟨_, ?_, j + 1, (m.getD j d3).at_, rfl, ⟨by rfl, by rfl, by rfl, by rfl, by rfl, by rfl, trivial⟩, (by omega), (LB_j ha (by assumption) (by omega) (by omega)), c_19⟩
              omega
            ·  -- no
              refine K.RW.q rfl (by kernel_rfl) (K.QR.nice (v := .bool (decide ((bes2 : Int) < (0 : Int)))) (by kernel_rfl) (congrArg Value.bool (decide_eq_false h_27))) ?_
              refine K.RW.q rfl (by kernel_rfl) (K.QR.k (v := .bool false) (by kernel_rfl)) ?_
              refine K.RW.q rfl (by kernel_rfl) (K.QR.k (v := .slice (some ⟨b_24, of_25, none⟩) m.length cap') (by kernel_rfl)) ?_
              refine K.RW.q rfl (by kernel_rfl) (K.QR.k (v := .int .i64 ((j : Nat) : Int)) (by kernel_rfl)) ?_
              refine K.RW.q rfl (by kernel_rfl) (K.QR.ix (of_25 + j * 3) 3 rfl rfl rfl Try.underlying53 (by kernel_rfl) (by omega) (by simp)) ?_
              refine K.RW.q rfl (by kernel_rfl) (K.QR.k (v := .pointer (some ⟨b_24, of_25 + j * 3, none⟩)) (by kernel_rfl)) ?_
              refine K.RW.q rfl (by kernel_rfl) (K.QR.ld1 (v := .int .i64 ((m.getD j d3).at_)) rfl rfl (by kernel_rfl) (c_19.cell (hk.ld j (by omega) 0 _ rfl) id)) ?_
              refine K.RW.q rfl (by kernel_rfl) (K.QR.k (v := .int .i64 bes2) (by kernel_rfl)) ?_
              by_cases h_28 : ((m.getD j d3).at_ : Int) < (bes2 : Int)
              ·  -- yes
                refine K.RW.q rfl (by kernel_rfl) (K.QR.nice (v := .bool (decide (((m.getD j d3).at_ : Int) < (bes2 : Int)))) (by kernel_rfl) (congrArg Value.bool (decide_eq_true h_28))) ?_
                refine K.RW.q rfl (by kernel_rfl) (K.QR.k (v := .bool true) (by kernel_rfl)) ?_
                refine K.RW.q rfl rfl (K.QR.k (v := .bool true) (by kernel_rfl)) ?_
                refine K.RW.nil ?_
                refine K.thn_normal ?_
                refine K.KW.ifT rfl ?_
                -- region 11 ref.go:66
                refine K.KW.region ?_
                refine K.RW.q rfl rfl (K.QR.k (v := .slice (some ⟨b_24, of_25, none⟩) m.length cap') (by kernel_rfl)) ?_
                refine K.RW.q rfl rfl (K.QR.k (v := .int .i64 ((j : Nat) : Int)) (by kernel_rfl)) ?_
                refine K.RW.q rfl rfl (K.QR.ix (of_25 + j * 3) 3 rfl rfl rfl Try.underlying53 (by kernel_rfl) (by omega) (by simp)) ?_
                refine K.RW.q rfl rfl (K.QR.k (v := .pointer (some ⟨b_24, of_25 + j * 3, none⟩)) (by kernel_rfl)) ?_
                refine K.RW.q rfl rfl (K.QR.ld1 (v := .int .i64 ((m.getD j d3).at_)) rfl rfl (by kernel_rfl) (c_19.cell (hk.ld j (by omega) 0 _ rfl) id)) ?_
                refine K.RW.q rfl rfl (K.QR.k (v := .int .i64 ((m.getD j d3).at_)) (by kernel_rfl)) ?_
                refine K.RW.nil ?_
                refine K.blk_normal ?_
                refine K.thn_normal ?_
                -- region 9 ref.go:64
                refine K.KW.region ?_
                refine K.RW.q rfl rfl (K.QR.k (v := .int .i64 ((j : Nat) : Int)) (by kernel_rfl)) ?_
                refine K.RW.q rfl rfl (K.QR.n64 ((((j : Nat) : Int) : Int) + (1 : Int)) ((j + 1 : Nat) : Int) (by kernel_rfl) (by omega)) ?_
                refine K.RW.q rfl rfl (K.QR.k (v := .int .i64 ((j + 1 : Nat) : Int)) (by kernel_rfl)) ?_
                refine K.RW.nil ?_
                refine K.thn_normal ?_
                refine ⟨_, ?_, j + 1, (m.getD j d3).at_, rfl, ⟨by rfl, by rfl, by rfl, by rfl, by rfl, by rfl, trivial⟩, (by omega), (LB_j ha (by assumption) (by omega) (by omega)), c_19⟩
                omega
              ·  -- no
                refine K.RW.q rfl (by kernel_rfl) (K.QR.nice (v := .bool (decide (((m.getD j d3).at_ : Int) < (bes2 : Int)))) (by kernel_rfl) (congrArg Value.bool (decide_eq_false h_28))) ?_
                refine K.RW.q rfl (by kernel_rfl) (K.QR.k (v := .bool false) (by kernel_rfl)) ?_
                refine K.RW.q rfl rfl (K.QR.k (v := .bool false) (by kernel_rfl)) ?_
                refine K.RW.nil ?_
                refine K.thn_normal ?_
                refine K.KW.ifF rfl ?_
                refine K.KW.skip ?_
                refine K.blk_normal ?_
                refine K.thn_normal ?_
                -- region 9 ref.go:64
                refine K.KW.region ?_
                refine K.RW.q rfl rfl (K.QR.k (v := .int .i64 ((j : Nat) : Int)) (by kernel_rfl)) ?_
                refine K.RW.q rfl rfl (K.QR.n64 ((((j : Nat) : Int) : Int) + (1 : Int)) ((j + 1 : Nat) : Int) (by kernel_rfl) (by omega)) ?_
                refine K.RW.q rfl rfl (K.QR.k (v := .int .i64 ((j + 1 : Nat) : Int)) (by kernel_rfl)) ?_
                refine K.RW.nil ?_
                refine K.thn_normal ?_
                refine ⟨_, ?_, j + 1, bes2, rfl, ⟨by rfl, by rfl, by rfl, by rfl, by rfl, by rfl, trivial⟩, (by omega), (LB_j ha (by assumption) (by omega) (by omega)), c_19⟩
                omega
          ·  -- no
            refine K.RW.q rfl rfl (K.QR.nice (v := .bool (decide (((m.getD j d3).at_ : Int) > (above : Int)))) (by kernel_rfl) (congrArg Value.bool (decide_eq_false h_26))) ?_
            refine K.RW.q rfl rfl (K.QR.k (v := .bool false) (by kernel_rfl)) ?_
            refine K.RW.skip rfl (by kernel_rfl) ?_
            refine K.RW.skip rfl (by kernel_rfl) ?_
            refine K.RW.skip rfl (by kernel_rfl) ?_
            refine K.RW.skip rfl (by kernel_rfl) ?_
            refine K.RW.skip rfl (by kernel_rfl) ?_
            refine K.RW.skip rfl (by kernel_rfl) ?_
            refine K.RW.skip rfl (by kernel_rfl) ?_
            refine K.RW.skip rfl (by kernel_rfl) ?_
            refine K.RW.skip rfl (by kernel_rfl) ?_
            refine K.RW.skip rfl (by kernel_rfl) ?_
            refine K.RW.skip rfl (by kernel_rfl) ?_
            refine K.RW.q rfl rfl (K.QR.k (v := .bool false) (by kernel_rfl)) ?_
            refine K.RW.nil ?_
            refine K.thn_normal ?_
            refine K.KW.ifF rfl ?_
            refine K.KW.skip ?_
            refine K.blk_normal ?_
            refine K.thn_normal ?_
            -- region 9 ref.go:64
            refine K.KW.region ?_
            refine K.RW.q rfl rfl (K.QR.k (v := .int .i64 ((j : Nat) : Int)) (by kernel_rfl)) ?_
            refine K.RW.q rfl rfl (K.QR.n64 ((((j : Nat) : Int) : Int) + (1 : Int)) ((j + 1 : Nat) : Int) (by kernel_rfl) (by omega)) ?_
            refine K.RW.q rfl rfl (K.QR.k (v := .int .i64 ((j + 1 : Nat) : Int)) (by kernel_rfl)) ?_
            refine K.RW.nil ?_
            refine K.thn_normal ?_
            refine ⟨_, ?_, j + 1, bes2, rfl, ⟨by rfl, by rfl, by rfl, by rfl, by rfl, by rfl, trivial⟩, (by omega), (LB_j ha (by assumption) (by omega) (by omega)), c_19⟩
            omega
        ·  -- no
          refine K.RW.q rfl rfl (K.QR.nice (v := .bool (decide ((((j : Nat) : Int) : Int) < (((m.length : Nat) : Int) : Int)))) (by kernel_rfl) (congrArg Value.bool (decide_eq_false h_23))) ?_
          refine K.RW.nil ?_
          refine K.thn_normal ?_
          refine K.KW.ifF rfl ?_
          refine K.KW.exit ?_
          refine K.thn_exit ?_
          refine K.thn_exit ?_
          refine K.blk_hit ?_
          refine K.thn_normal ?_
          refine K.KW.seq ?_
          -- region 12 ref.go:69
          refine K.KW.region ?_
          refine K.RW.q rfl rfl (K.QR.k (v := .int .i64 bes2) (by kernel_rfl)) ?_
          refine K.RW.q rfl rfl (K.QR.k (v := .int .i64 bes2) (by kernel_rfl)) ?_
          refine K.RW.nil ?_
          refine K.thn_normal ?_
          refine K.KW.ret ?_
          refine ⟨.inr rfl, (.int .i64 bes2), K.res1 rfl rfl, ?_⟩
          refine ⟨c_19, ?_⟩
          rcases LB_end2 (by assumption : LB l m above l.length j bes2) rfl (by omega) with ⟨h1, h2⟩ | ⟨h1, h2⟩
          · exact .inl ⟨by rw [h1], h2⟩
          · exact .inr ⟨_, rfl, h1, h2⟩

set_option maxHeartbeats 1000000 in
set_option maxRecDepth 100000 in
theorem rjoin_ok (a b : Option Addr) (cap cap' : Nat) (l m : List Chg3) (w0 : World) (hm : (l.length + m.length) * 24 ≤ 140737488351232) (hl : RCh w0 a l) (hk : RCh w0 b m) :
    K.KC Try.prog 42 #[.slice a l.length cap, .slice b m.length cap'] w0 (fun v w' => ∃ r m1 c, v = .tuple #[.slice r m1 c, .int .i64 (joinR l m).1] ∧ K.Chg K.No w0 w' ∧ K.Own w' w0.heap.size 97 3 r m1 c (((joinR l m).2).flatMap chgC) ∧ (joinR l m).2.length = m1) := by
  refine K.KC.mk (n := 105) Try.func42 rfl rfl [.slice a l.length cap, .slice b m.length cap'] rfl rfl ?_
  refine K.KW.seq ?_
  -- region 0 ref.go:73
  refine K.KW.region ?_
  refine K.RW.q rfl rfl (K.QR.k (v := .slice none 0 0) (by kernel_rfl)) ?_
  refine K.RW.q rfl rfl (K.QR.k (v := .int .i64 0) (by kernel_rfl)) ?_
  refine K.RW.nil ?_
  refine K.thn_normal ?_
  refine K.KW.seq ?_
  refine K.KW.seq ?_
  -- region 1 ref.go:74
  refine K.KW.region ?_
  refine K.RW.q rfl rfl (K.QR.k (v := .slice a l.length cap) (by kernel_rfl)) ?_
  refine K.RW.l rfl (K.OW.call rfl [.slice a l.length cap] rfl rfl (by kernel_rfl) (rright_ok _ _ l _ (by first | omega | (simp; omega) | (simp; done)) hl) ?_) 
  rintro v_4 w_2 ⟨hv_3, c_1⟩
  have c_5 := c_1
  have z_6 := c_5.size
  rcases Bool.eq_false_or_eq_true (right l) with hb_7 | hb_7
  ·  -- True
    rw [hb_7] at hv_3; subst hv_3
    refine K.RW.q rfl rfl (K.QR.k (v := .bool false) (by kernel_rfl)) ?_
    refine K.RW.q rfl rfl (K.QR.k (v := .bool false) (by kernel_rfl)) ?_
    refine K.RW.q rfl (by kernel_rfl) (K.QR.k (v := .slice b m.length cap') (by kernel_rfl)) ?_
    refine K.RW.l (by kernel_rfl) (K.OW.call rfl [.slice b m.length cap'] rfl rfl (by kernel_rfl) (rright_ok _ _ m _ (by first | omega | (simp; omega) | (simp; done)) (hk.no c_5)) ?_) 
    rintro v_11 w_9 ⟨hv_10, c_8⟩
    have c_12 := c_5.no c_8
    have z_13 := c_12.size
    rcases Bool.eq_false_or_eq_true (right m) with hb_14 | hb_14
    ·  -- True
      rw [hb_14] at hv_10; subst hv_10
      refine K.RW.q rfl (by kernel_rfl) (K.QR.k (v := .bool false) (by kernel_rfl)) ?_
      refine K.RW.q rfl rfl (K.QR.k (v := .bool false) (by kernel_rfl)) ?_
      refine K.RW.nil ?_
      refine K.thn_normal ?_
      refine K.KW.ifF rfl ?_
      refine K.KW.skip ?_
      refine K.thn_normal ?_
      refine K.KW.seq ?_
      -- region 3 ref.go:77
      refine K.KW.region ?_
      refine K.RW.q rfl rfl (K.QR.k (v := .slice none 0 0) (by kernel_rfl)) ?_
      refine K.RW.nil ?_
      refine K.thn_normal ?_
      refine K.KW.seq ?_
      -- region 4 ref.go:78
      refine K.KW.region ?_
      refine K.RW.q rfl rfl (K.QR.k (v := .int .i64 (-1)) (by kernel_rfl)) ?_
      refine K.RW.nil ?_
      refine K.thn_normal ?_
      refine K.KW.seq ?_
      refine K.KW.seq ?_
      -- region 5 ref.go:79
      refine K.KW.region ?_
      refine K.RW.q rfl rfl (K.QR.k (v := .int .i64 0) (by kernel_rfl)) ?_
      refine K.RW.nil ?_
      refine K.thn_normal ?_
      refine K.KW.block ?_
      refine K.KW.loop (fun m_ F_ w_15 => ∃ (n : Nat) (at_ : Int) (out : List Chg3) (r : Option Addr) (m1 : Nat) (c1 : Nat), m_ = l.length + m.length - n ∧ K.Sl F_ [(0, .slice a l.length cap), (1, .slice b m.length cap'), (6, .slice r m1 c1), (7, .int .i64 at_), (8, .int .i64 ((n : Nat) : Int))] ∧ n ≤ l.length + m.length ∧ out.length = m1 ∧ m1 ≤ n ∧ -1 ≤ at_ ∧ JI l m at_ n out ∧ right l = true ∧ right m = true ∧ K.Chg K.No w0 w_15 ∧ K.Own w_15 w0.heap.size 97 3 r m1 c1 ((out).flatMap chgC)) ((fun (n : Nat) (at_ : Int) (out : List Chg3) (r : Option Addr) (m1 : Nat) (c1 : Nat) => l.length + m.length - n) 0 (-1) [] none 0 0) ?_ ?_
      · -- the loop begins
        exact ⟨0, (-1), [], none, 0, 0, rfl, ⟨by rfl, by rfl, by rfl, by rfl, by rfl, trivial⟩, (by omega), (rfl), (by omega), (by omega), (JI_zero (by assumption) (by assumption)), ((by assumption)), ((by assumption)), c_12, K.Own.nil _ _ _ _⟩
      · -- a round
        intro m_16 F_17 w_15 hI
        obtain ⟨n, at_, out, r, m1, c1, rfl, sl_18, p_20, p_21, p_22, p_23, p_24, p_25, p_26, c_19, f_27⟩ := hI
        rw [← K.Sl.puts sl_18]; clear sl_18
        have z_28 := c_19.size
        refine K.KW.seq ?_
        refine K.KW.seq ?_
        -- region 6 ref.go:79
        refine K.KW.region ?_
        refine K.RW.q rfl rfl (K.QR.k (v := .int .i64 ((n : Nat) : Int)) (by kernel_rfl)) ?_
        refine K.RW.q rfl rfl (K.QR.k (v := .slice a l.length cap) (by kernel_rfl)) ?_
        refine K.RW.q rfl rfl (K.QR.len (P := Try.prog) rfl rfl Try.underlying53) ?_
        refine K.RW.q rfl rfl (K.QR.k (v := .slice b m.length cap') (by kernel_rfl)) ?_
        refine K.RW.q rfl rfl (K.QR.len (P := Try.prog) rfl rfl Try.underlying53) ?_
        refine K.RW.q rfl rfl (K.QR.n64 ((((l.length : Nat) : Int) : Int) + (((m.length : Nat) : Int) : Int)) ((l.length + m.length : Nat) : Int) (by kernel_rfl) (by omega)) ?_
        by_cases h_29 : (((n : Nat) : Int) : Int) < (((l.length + m.length : Nat) : Int) : Int)
        ·  -- yes
          refine K.RW.q rfl rfl (K.QR.nice (v := .bool (decide ((((n : Nat) : Int) : Int) < (((l.length + m.length : Nat) : Int) : Int)))) (by kernel_rfl) (congrArg Value.bool (decide_eq_true h_29))) ?_
          refine K.RW.nil ?_
          refine K.thn_normal ?_
          refine K.KW.ifT rfl ?_
          refine K.KW.skip ?_
          refine K.thn_normal ?_
          refine K.KW.seq ?_
          refine K.KW.block ?_
          refine K.KW.seq ?_
          -- region 8 ref.go:80
          refine K.KW.region ?_
          refine K.RW.q rfl rfl (K.QR.k (v := .slice a l.length cap) (by kernel_rfl)) ?_
          refine K.RW.q rfl rfl (K.QR.k (v := .slice b m.length cap') (by kernel_rfl)) ?_
          refine K.RW.q rfl rfl (K.QR.k (v := .int .i64 at_) (by kernel_rfl)) ?_
          refine K.RW.l rfl (K.OW.call rfl [.slice a l.length cap, .slice b m.length cap', .int .i64 at_] rfl rfl (by kernel_rfl) (least_ok _ _ _ _ l m _ _ (by first | omega | (simp; omega) | (simp; done)) (by first | omega | (simp; omega) | (simp; done)) (by first | omega | (simp; omega) | (simp; done)) (hl.no c_19) (hk.no c_19)) ?_) 
          rintro v_31 w_30 ⟨c_32, h_33⟩
          have c_34 := c_19.no c_32
          have z_35 := c_34.size
          have f_36 := f_27.no c_32
          rcases h_33 with ⟨rfl, g_37⟩ | ⟨z_38, rfl, g_39, h_40⟩
          ·  -- one way
            refine K.RW.q rfl rfl (K.QR.k (v := .int .i64 (-1)) (by kernel_rfl)) ?_
            refine K.RW.nil ?_
            refine K.thn_normal ?_
            refine K.KW.seq ?_
            refine K.KW.seq ?_
            -- region 9 ref.go:81
            refine K.KW.region ?_
            refine K.RW.q rfl rfl (K.QR.k (v := .int .i64 (-1)) (by kernel_rfl)) ?_
            refine K.RW.q rfl rfl (K.QR.k (v := .bool true) (by kernel_rfl)) ?_
            refine K.RW.nil ?_
            refine K.thn_normal ?_
            refine K.KW.ifT rfl ?_
            refine K.KW.seq ?_
            -- region 10 ref.go:82
            refine K.KW.region ?_
            refine K.RW.q rfl rfl (K.QR.k (v := .slice r m1 c1) (by kernel_rfl)) ?_
            refine K.RW.q rfl rfl (K.QR.k (v := .slice r m1 c1) (by kernel_rfl)) ?_
            refine K.RW.q rfl rfl (K.QR.k (v := .int .i64 0) (by kernel_rfl)) ?_
            refine K.RW.nil ?_
            refine K.thn_normal ?_
            refine K.KW.ret ?_
            refine K.thn_ret ?_
            refine K.blk_ret ?_
            refine K.thn_ret ?_
            refine K.thn_ret ?_
            refine K.blk_ret ?_
            refine K.thn_ret ?_
            refine ⟨.inr rfl, (.tuple #[.slice r m1 c1, .int .i64 0]), K.res2 rfl rfl rfl, ?_⟩
            rw [joinR_0 (j := out) (by assumption) (by assumption) (by first | exact JI_none (by assumption) (by assumption) | exact JI_full (by assumption) (by omega))]
            exact ⟨_, _, _, rfl, c_34, f_36, p_21⟩
          ·  -- one way
            refine K.RW.q rfl rfl (K.QR.k (v := .int .i64 z_38) (by kernel_rfl)) ?_
            refine K.RW.nil ?_
            refine K.thn_normal ?_
            refine K.KW.seq ?_
            refine K.KW.seq ?_
            -- region 9 ref.go:81
            refine K.KW.region ?_
            refine K.RW.q rfl rfl (K.QR.k (v := .int .i64 z_38) (by kernel_rfl)) ?_
            refine K.RW.q rfl rfl (K.QR.nice (v := .bool (decide ((z_38 : Int) < (0 : Int)))) (by kernel_rfl) (congrArg Value.bool (decide_eq_false (by have := (by assumption : leastP l m at_ z_38).1; omega)))) ?_
            refine K.RW.nil ?_
            refine K.thn_normal ?_
            refine K.KW.ifF rfl ?_
            refine K.KW.skip ?_
            refine K.thn_normal ?_
            refine K.KW.seq ?_
            -- region 11 ref.go:84
            refine K.KW.region ?_
            refine K.RW.q rfl rfl (K.QR.k (v := .slice a l.length cap) (by kernel_rfl)) ?_
            refine K.RW.q rfl rfl (K.QR.k (v := .int .i64 z_38) (by kernel_rfl)) ?_
            refine K.RW.l rfl (K.OW.call rfl [.slice a l.length cap, .int .i64 z_38] rfl rfl (by kernel_rfl) (rfind_ok _ _ l _ _ (by first | omega | (simp; omega) | (simp; done)) (hl.no c_34)) ?_) 
            rintro v_42 w_41 ⟨c_43, h_44⟩
            have c_45 := c_34.no c_43
            have z_46 := c_45.size
            have f_47 := f_36.no c_43
            rcases h_44 with ⟨k_48, rfl, h_49, g_50⟩ | ⟨rfl, g_51⟩
            ·  -- one way
              refine K.RW.q rfl rfl (K.QR.k (v := .slice b m.length cap') (by kernel_rfl)) ?_
              refine K.RW.q rfl rfl (K.QR.k (v := .int .i64 z_38) (by kernel_rfl)) ?_
              refine K.RW.l rfl (K.OW.call rfl [.slice b m.length cap', .int .i64 z_38] rfl rfl (by kernel_rfl) (rfind_ok _ _ m _ _ (by first | omega | (simp; omega) | (simp; done)) (hk.no c_45)) ?_) 
              rintro v_53 w_52 ⟨c_54, h_55⟩
              have c_56 := c_45.no c_54
              have z_57 := c_56.size
              have f_58 := f_47.no c_54
              rcases h_55 with ⟨k_59, rfl, h_60, g_61⟩ | ⟨rfl, g_62⟩
              ·  -- one way
                refine K.RW.q rfl rfl (K.QR.k (v := .int .i64 ((k_48 : Nat) : Int)) (by kernel_rfl)) ?_
                refine K.RW.q rfl rfl (K.QR.k (v := .int .i64 ((k_59 : Nat) : Int)) (by kernel_rfl)) ?_
                refine K.RW.nil ?_
                refine K.thn_normal ?_
                refine K.KW.seq ?_
                refine K.KW.seq ?_
                -- region 12 ref.go:85
                refine K.KW.drawn (fun w => K.Chg K.No w0 w) (by kernel_rfl) ?_
                intro w_63 e_64 hs_65
                have c_67 := c_56.no e_64
                have z_68 := c_67.size
                have f_69 := f_58.no e_64
                have hS_66 : (fun w => K.Chg K.No w0 w) w_63 := c_67
                refine K.DW.q 0 (by kernel_rfl) rfl rfl (by kernel_rfl) rfl (fun w hS => K.QR.k (v := .int .i64 ((k_48 : Nat) : Int)) (by kernel_rfl)) hS_66 ?_
                refine K.DW.q 1 (by kernel_rfl) rfl rfl (by kernel_rfl) rfl (fun w hS => K.QR.nice (v := .bool (decide ((((k_48 : Nat) : Int) : Int) ≥ (0 : Int)))) (by kernel_rfl) (congrArg Value.bool (decide_eq_true (by omega)))) hS_66 ?_
                refine K.DW.q 2 (by kernel_rfl) rfl rfl (by kernel_rfl) rfl (fun w hS => K.QR.k (v := .bool true) (by kernel_rfl)) hS_66 ?_
                refine K.DW.q 3 (by kernel_rfl) rfl rfl (by kernel_rfl) (by kernel_rfl) (fun w hS => K.QR.k (v := .int .i64 ((k_59 : Nat) : Int)) (by kernel_rfl)) hS_66 ?_
                refine K.DW.q 4 (by kernel_rfl) rfl rfl (by kernel_rfl) (by kernel_rfl) (fun w hS => K.QR.nice (v := .bool (decide ((((k_59 : Nat) : Int) : Int) ≥ (0 : Int)))) (by kernel_rfl) (congrArg Value.bool (decide_eq_true (by omega)))) hS_66 ?_
                refine K.DW.q 5 (by kernel_rfl) rfl rfl (by kernel_rfl) rfl (fun w hS => K.QR.k (v := .bool true) (by kernel_rfl)) hS_66 ?_
                refine K.DW.q 6 (by kernel_rfl) rfl rfl (by kernel_rfl) rfl (fun w hS => K.QR.k (v := .bool true) (by kernel_rfl)) hS_66 ?_
                refine K.DW.q 7 (by kernel_rfl) rfl rfl (by kernel_rfl) (by kernel_rfl) (fun w hS => K.QR.k (v := .slice a l.length cap) (by kernel_rfl)) hS_66 ?_
                refine K.DW.q 8 (by kernel_rfl) rfl rfl (by kernel_rfl) (by kernel_rfl) (fun w hS => K.QR.k (v := .int .i64 ((k_48 : Nat) : Int)) (by kernel_rfl)) hS_66 ?_
                obtain ⟨b_70, of_71, rfl, _⟩ := hl.at_ (by omega)
                refine K.DW.q 9 (by kernel_rfl) rfl rfl (by kernel_rfl) (by kernel_rfl) (fun w hS => K.QR.ix (of_71 + k_48 * 3) 3 rfl rfl rfl Try.underlying53 (by kernel_rfl) (by omega) (by simp)) hS_66 ?_
                refine K.DW.q 10 (by kernel_rfl) rfl rfl (by kernel_rfl) (by kernel_rfl) (fun w hS => K.QR.k (v := .pointer (some ⟨b_70, of_71 + k_48 * 3 + 2, none⟩)) (by kernel_rfl)) hS_66 ?_
                refine K.DW.q 11 (by kernel_rfl) rfl rfl (by kernel_rfl) (by kernel_rfl) (fun w hS => K.QR.ld1 (v := .int .u64 ((l.getD k_48 d3).new)) rfl rfl (by kernel_rfl) (hS.cell (hl.ld k_48 (by omega) 2 _ rfl) id)) hS_66 ?_
                refine K.DW.q 12 (by kernel_rfl) rfl rfl (by kernel_rfl) (by kernel_rfl) (fun w hS => K.QR.k (v := .slice b m.length cap') (by kernel_rfl)) hS_66 ?_
                refine K.DW.q 13 (by kernel_rfl) rfl rfl (by kernel_rfl) (by kernel_rfl) (fun w hS => K.QR.k (v := .int .i64 ((k_59 : Nat) : Int)) (by kernel_rfl)) hS_66 ?_
                obtain ⟨b_72, of_73, rfl, _⟩ := hk.at_ (by omega)
                refine K.DW.q 14 (by kernel_rfl) rfl rfl (by kernel_rfl) (by kernel_rfl) (fun w hS => K.QR.ix (of_73 + k_59 * 3) 3 rfl rfl rfl Try.underlying53 (by kernel_rfl) (by omega) (by simp)) hS_66 ?_
                refine K.DW.q 15 (by kernel_rfl) rfl rfl (by kernel_rfl) (by kernel_rfl) (fun w hS => K.QR.k (v := .pointer (some ⟨b_72, of_73 + k_59 * 3 + 1, none⟩)) (by kernel_rfl)) hS_66 ?_
                refine K.DW.q 16 (by kernel_rfl) rfl rfl (by kernel_rfl) (by kernel_rfl) (fun w hS => K.QR.ld1 (v := .int .u64 ((m.getD k_59 d3).old)) rfl rfl (by kernel_rfl) (hS.cell (hk.ld k_59 (by omega) 1 _ rfl) id)) hS_66 ?_
                by_cases h_74 : ((l.getD k_48 d3).new : Int) = ((m.getD k_59 d3).old : Int)
                ·  -- yes
                  refine K.DW.q 17 (by kernel_rfl) rfl rfl (by kernel_rfl) (by kernel_rfl) (fun w hS => K.QR.nice (v := .bool (((l.getD k_48 d3).new : Int) != ((m.getD k_59 d3).old : Int))) (by kernel_rfl) (congrArg Value.bool (bne_eq_false_iff_eq.2 h_74))) hS_66 ?_
                  refine K.DW.q 18 (by kernel_rfl) rfl rfl (by kernel_rfl) rfl (fun w hS => K.QR.k (v := .bool false) (by kernel_rfl)) hS_66 ?_
                  refine K.DW.done (by kernel_rfl) ?_
                  refine K.thn_normal ?_
                  refine K.KW.ifF rfl ?_
                  refine K.KW.skip ?_
                  refine K.thn_normal ?_
                  refine K.KW.seq ?_
                  -- region 14 ref.go:88
                  refine K.KW.region ?_
                  refine K.RW.q rfl rfl (K.QR.k (v := .int .i64 ((k_48 : Nat) : Int)) (by kernel_rfl)) ?_
                  refine K.RW.q rfl rfl (K.QR.nice (v := .bool (decide ((((k_48 : Nat) : Int) : Int) < (0 : Int)))) (by kernel_rfl) (congrArg Value.bool (decide_eq_false (by omega)))) ?_
                  refine K.RW.nil ?_
                  refine K.thn_normal ?_
                  refine K.KW.ifF rfl ?_
                  refine K.KW.seq ?_
                  -- region 16 ref.go:90
                  refine K.KW.region ?_
                  refine K.RW.q rfl rfl (K.QR.k (v := .int .i64 ((k_59 : Nat) : Int)) (by kernel_rfl)) ?_
                  refine K.RW.q rfl rfl (K.QR.nice (v := .bool (decide ((((k_59 : Nat) : Int) : Int) < (0 : Int)))) (by kernel_rfl) (congrArg Value.bool (decide_eq_false (by omega)))) ?_
                  refine K.RW.nil ?_
                  refine K.thn_normal ?_
                  refine K.KW.ifF rfl ?_
                  refine K.KW.seq ?_
                  -- region 18 ref.go:92
                  refine K.KW.drawn (fun w => K.Chg K.No w0 w) (by kernel_rfl) ?_
                  intro w_75 e_76 hs_77
                  have c_79 := c_67.no e_76
                  have z_80 := c_79.size
                  have f_81 := f_69.no e_76
                  have hS_78 : (fun w => K.Chg K.No w0 w) w_75 := c_79
                  refine K.DW.q 0 (by kernel_rfl) rfl rfl (by kernel_rfl) rfl (fun w hS => K.QR.k (v := .slice (some ⟨b_70, of_71, none⟩) l.length cap) (by kernel_rfl)) hS_78 ?_
                  refine K.DW.q 1 (by kernel_rfl) rfl rfl (by kernel_rfl) rfl (fun w hS => K.QR.k (v := .int .i64 ((k_48 : Nat) : Int)) (by kernel_rfl)) hS_78 ?_
                  refine K.DW.q 2 (by kernel_rfl) rfl rfl (by kernel_rfl) rfl (fun w hS => K.QR.ix (of_71 + k_48 * 3) 3 rfl rfl rfl Try.underlying53 (by kernel_rfl) (by omega) (by simp)) hS_78 ?_
                  refine K.DW.q 3 (by kernel_rfl) rfl rfl (by kernel_rfl) rfl (fun w hS => K.QR.k (v := .pointer (some ⟨b_70, of_71 + k_48 * 3 + 1, none⟩)) (by kernel_rfl)) hS_78 ?_
                  refine K.DW.q 4 (by kernel_rfl) rfl rfl (by kernel_rfl) rfl (fun w hS => K.QR.ld1 (v := .int .u64 ((l.getD k_48 d3).old)) rfl rfl (by kernel_rfl) (hS.cell (hl.ld k_48 (by omega) 1 _ rfl) id)) hS_78 ?_
                  refine K.DW.q 5 (by kernel_rfl) rfl rfl (by kernel_rfl) rfl (fun w hS => K.QR.k (v := .slice (some ⟨b_72, of_73, none⟩) m.length cap') (by kernel_rfl)) hS_78 ?_
                  refine K.DW.q 6 (by kernel_rfl) rfl rfl (by kernel_rfl) rfl (fun w hS => K.QR.k (v := .int .i64 ((k_59 : Nat) : Int)) (by kernel_rfl)) hS_78 ?_
                  refine K.DW.q 7 (by kernel_rfl) rfl rfl (by kernel_rfl) rfl (fun w hS => K.QR.ix (of_73 + k_59 * 3) 3 rfl rfl rfl Try.underlying53 (by kernel_rfl) (by omega) (by simp)) hS_78 ?_
                  refine K.DW.q 8 (by kernel_rfl) rfl rfl (by kernel_rfl) rfl (fun w hS => K.QR.k (v := .pointer (some ⟨b_72, of_73 + k_59 * 3 + 2, none⟩)) (by kernel_rfl)) hS_78 ?_
                  refine K.DW.q 9 (by kernel_rfl) rfl rfl (by kernel_rfl) rfl (fun w hS => K.QR.ld1 (v := .int .u64 ((m.getD k_59 d3).new)) rfl rfl (by kernel_rfl) (hS.cell (hk.ld k_59 (by omega) 2 _ rfl) id)) hS_78 ?_
                  by_cases h_82 : ((l.getD k_48 d3).old : Int) = ((m.getD k_59 d3).new : Int)
                  ·  -- yes
                    refine K.DW.q 10 (by kernel_rfl) rfl rfl (by kernel_rfl) rfl (fun w hS => K.QR.nice (v := .bool (((l.getD k_48 d3).old : Int) != ((m.getD k_59 d3).new : Int))) (by kernel_rfl) (congrArg Value.bool (bne_eq_false_iff_eq.2 h_82))) hS_78 ?_
                    refine K.DW.done (by kernel_rfl) ?_
                    refine K.thn_normal ?_
                    refine K.KW.ifF rfl ?_
                    refine K.KW.skip ?_
                    refine K.blk_normal ?_
                    refine K.thn_normal ?_
                    -- region 7 ref.go:79
                    refine K.KW.region ?_
                    refine K.RW.q rfl rfl (K.QR.k (v := .int .i64 ((n : Nat) : Int)) (by kernel_rfl)) ?_
                    refine K.RW.q rfl rfl (K.QR.n64 ((((n : Nat) : Int) : Int) + (1 : Int)) ((n + 1 : Nat) : Int) (by kernel_rfl) (by omega)) ?_
                    refine K.RW.q rfl rfl (K.QR.k (v := .int .i64 ((n + 1 : Nat) : Int)) (by kernel_rfl)) ?_
                    refine K.RW.nil ?_
                    refine K.thn_normal ?_
                    refine ⟨_, ?_, n + 1, z_38, out, r, m1, c1, rfl, ⟨by rfl, by rfl, by rfl, by rfl, by rfl, trivial⟩, (by omega), (p_21), (by omega), (by have := (by assumption : leastP l m at_ z_38).1; omega), (by first | exact JI_m (by assumption) (by assumption) (by assumption) (by assumption) (by assumption) (by assumption) | exact JI_l (by assumption) (by assumption) (by assumption) (by assumption) (by assumption) (by assumption) | exact JI_eq (by assumption) (by assumption) (by assumption) (by assumption) (by assumption) (by assumption) (by assumption) (by assumption) (by assumption) (by assumption) | exact JI_away (by assumption) (by assumption) (by assumption) (by assumption) (by assumption) (by assumption) (by assumption) (by assumption) (by assumption) (by assumption)), ((by assumption)), ((by assumption)), c_79, f_81⟩
                    omega
                  ·  -- no
                    refine K.DW.q 10 (by kernel_rfl) rfl rfl (by kernel_rfl) rfl (fun w hS => K.QR.nice (v := .bool (((l.getD k_48 d3).old : Int) != ((m.getD k_59 d3).new : Int))) (by kernel_rfl) (congrArg Value.bool (bne_iff_ne.2 h_82))) hS_78 ?_
                    refine K.DW.done (by kernel_rfl) ?_
                    refine K.thn_normal ?_
                    refine K.KW.ifT rfl ?_
                    -- region 19 ref.go:93
                    refine K.KW.drawn (fun w => K.Chg K.No w0 w) (by kernel_rfl) ?_
                    intro w_83 e_84 hs_85
                    have c_87 := c_79.no e_84
                    have z_88 := c_87.size
                    have f_89 := f_81.no e_84
                    have hS_86 : (fun w => K.Chg K.No w0 w) w_83 := c_87
                    refine K.DW.q 0 (by kernel_rfl) rfl rfl (by kernel_rfl) rfl (fun w hS => K.QR.k (v := .slice r m1 c1) (by kernel_rfl)) hS_86 ?_
                    refine K.DW.q 1 (by kernel_rfl) rfl rfl (by kernel_rfl) rfl (fun w hS => K.QR.k (v := .int .i64 z_38) (by kernel_rfl)) hS_86 ?_
                    refine K.DW.q 2 (by kernel_rfl) rfl rfl (by kernel_rfl) rfl (fun w hS => K.QR.k (v := .slice (some ⟨b_70, of_71, none⟩) l.length cap) (by kernel_rfl)) hS_86 ?_
                    refine K.DW.q 3 (by kernel_rfl) rfl rfl (by kernel_rfl) rfl (fun w hS => K.QR.k (v := .int .i64 ((k_48 : Nat) : Int)) (by kernel_rfl)) hS_86 ?_
                    refine K.DW.q 4 (by kernel_rfl) rfl rfl (by kernel_rfl) rfl (fun w hS => K.QR.ix (of_71 + k_48 * 3) 3 rfl rfl rfl Try.underlying53 (by kernel_rfl) (by omega) (by simp)) hS_86 ?_
                    refine K.DW.q 5 (by kernel_rfl) rfl rfl (by kernel_rfl) rfl (fun w hS => K.QR.k (v := .pointer (some ⟨b_70, of_71 + k_48 * 3 + 1, none⟩)) (by kernel_rfl)) hS_86 ?_
                    refine K.DW.q 6 (by kernel_rfl) rfl rfl (by kernel_rfl) rfl (fun w hS => K.QR.ld1 (v := .int .u64 ((l.getD k_48 d3).old)) rfl rfl (by kernel_rfl) (hS.cell (hl.ld k_48 (by omega) 1 _ rfl) id)) hS_86 ?_
                    refine K.DW.q 7 (by kernel_rfl) rfl rfl (by kernel_rfl) rfl (fun w hS => K.QR.k (v := .slice (some ⟨b_72, of_73, none⟩) m.length cap') (by kernel_rfl)) hS_86 ?_
                    refine K.DW.q 8 (by kernel_rfl) rfl rfl (by kernel_rfl) rfl (fun w hS => K.QR.k (v := .int .i64 ((k_59 : Nat) : Int)) (by kernel_rfl)) hS_86 ?_
                    refine K.DW.q 9 (by kernel_rfl) rfl rfl (by kernel_rfl) rfl (fun w hS => K.QR.ix (of_73 + k_59 * 3) 3 rfl rfl rfl Try.underlying53 (by kernel_rfl) (by omega) (by simp)) hS_86 ?_
                    refine K.DW.q 10 (by kernel_rfl) rfl rfl (by kernel_rfl) rfl (fun w hS => K.QR.k (v := .pointer (some ⟨b_72, of_73 + k_59 * 3 + 2, none⟩)) (by kernel_rfl)) hS_86 ?_
                    refine K.DW.q 11 (by kernel_rfl) rfl rfl (by kernel_rfl) rfl (fun w hS => K.QR.ld1 (v := .int .u64 ((m.getD k_59 d3).new)) rfl rfl (by kernel_rfl) (hS.cell (hk.ld k_59 (by omega) 2 _ rfl) id)) hS_86 ?_
                    refine K.DW.q 12 (by kernel_rfl) rfl rfl (by kernel_rfl) rfl (fun w hS => K.QR.bd [(0, .int .i64 z_38), (1, .int .u64 ((l.getD k_48 d3).old)), (2, .int .u64 ((m.getD k_59 d3).new))] [.int .i64 z_38, .int .u64 ((l.getD k_48 d3).old), .int .u64 ((m.getD k_59 d3).new)] rfl rfl (by kernel_rfl)) hS_86 ?_
                    refine K.DW.l 13 rfl (by kernel_rfl) rfl (K.OW.bs rfl [(0, .agg #[.int .i64 z_38, .int .u64 ((l.getD k_48 d3).old), .int .u64 ((m.getD k_59 d3).new)])] [.int .i64 z_38, .int .u64 ((l.getD k_48 d3).old), .int .u64 ((m.getD k_59 d3).new)] rfl rfl (fun w => K.bs_run (P := Try.prog) w 53 97 1 _ _ Try.underlying53 (by kernel_rfl)) ?_)
                    intro w_90 r_91 hr_92 e_93 hs_94 b_95
                    have c_96 := c_87.no e_93
                    have z_97 := c_96.size
                    have f_98 := f_89.no e_93
                    have ap_99 : ∀ k, K.Ow r k → ¬ k = r_91 := fun k hk he => absurd (f_89.lt k hk) (by omega)
                    have hS_100 : (fun w => K.Chg K.No w0 w) w_90 := c_96
                    refine ⟨hS_100, ?_⟩
                    refine K.DW.l 14 rfl (by kernel_rfl) rfl (K.OW.app (P := Try.prog) (xs := (out).flatMap chgC) (z := .agg #[.int .i64 0, .int .u64 0, .int .u64 0]) (size := 3) (bytes := 24) rfl [.int .i64 z_38, .int .u64 ((l.getD k_48 d3).old), .int .u64 ((m.getD k_59 d3).new)] rfl rfl f_98 rfl Try.underlying53 (by kernel_rfl) rfl (by decide) (by rfl) (fun j u hj => (by rw [Nat.zero_add]; exact b_95.cell hj)) (K.one_cells (by rfl)) (by unfold maxLen; omega) (by omega) (by omega) ?_)
                    intro a_101 cap_102 w_103 e_104 o_105
                    have c_106 := c_96.trans e_104 (fun i hi hy => absurd (f_98.base_le i hy) (by omega))
                    have z_107 := c_106.size
                    have o_105t := K.Own.snoc (c := chgC) (L := out) (⟨z_38, (l.getD k_48 d3).old, (m.getD k_59 d3).new⟩ : Chg3) rfl o_105
                    have ln_108 : ((out ++ [(⟨z_38, (l.getD k_48 d3).old, (m.getD k_59 d3).new⟩ : Chg3)])).length = m1 + 1 := by rw [List.length_append, p_21]; rfl
                    have hS_109 : (fun w => K.Chg K.No w0 w) w_103 := c_106
                    refine ⟨hS_109, ?_⟩
                    refine K.DW.q 15 (by kernel_rfl) rfl rfl (by kernel_rfl) rfl (fun w hS => K.QR.k (v := .slice a_101 (m1 + 1) cap_102) (by kernel_rfl)) hS_109 ?_
                    refine K.DW.done (by kernel_rfl) ?_
                    refine K.blk_normal ?_
                    refine K.thn_normal ?_
                    -- region 7 ref.go:79
                    refine K.KW.region ?_
                    refine K.RW.q rfl rfl (K.QR.k (v := .int .i64 ((n : Nat) : Int)) (by kernel_rfl)) ?_
                    refine K.RW.q rfl rfl (K.QR.n64 ((((n : Nat) : Int) : Int) + (1 : Int)) ((n + 1 : Nat) : Int) (by kernel_rfl) (by omega)) ?_
                    refine K.RW.q rfl rfl (K.QR.k (v := .int .i64 ((n + 1 : Nat) : Int)) (by kernel_rfl)) ?_
                    refine K.RW.nil ?_
                    refine K.thn_normal ?_
                    refine ⟨_, ?_, n + 1, z_38, (out ++ [(⟨z_38, (l.getD k_48 d3).old, (m.getD k_59 d3).new⟩ : Chg3)]), a_101, m1 + 1, cap_102, rfl, ⟨by rfl, by rfl, by rfl, by rfl, by rfl, trivial⟩, (by omega), (ln_108), (by omega), (by have := (by assumption : leastP l m at_ z_38).1; omega), (by first | exact JI_m (by assumption) (by assumption) (by assumption) (by assumption) (by assumption) (by assumption) | exact JI_l (by assumption) (by assumption) (by assumption) (by assumption) (by assumption) (by assumption) | exact JI_eq (by assumption) (by assumption) (by assumption) (by assumption) (by assumption) (by assumption) (by assumption) (by assumption) (by assumption) (by assumption) | exact JI_away (by assumption) (by assumption) (by assumption) (by assumption) (by assumption) (by assumption) (by assumption) (by assumption) (by assumption) (by assumption)), ((by assumption)), ((by assumption)), c_106, o_105t⟩
                    omega
                ·  -- no
                  refine K.DW.q 17 (by kernel_rfl) rfl rfl (by kernel_rfl) (by kernel_rfl) (fun w hS => K.QR.nice (v := .bool (((l.getD k_48 d3).new : Int) != ((m.getD k_59 d3).old : Int))) (by kernel_rfl) (congrArg Value.bool (bne_iff_ne.2 h_74))) hS_66 ?_
                  refine K.DW.q 18 (by kernel_rfl) rfl rfl (by kernel_rfl) rfl (fun w hS => K.QR.k (v := .bool true) (by kernel_rfl)) hS_66 ?_
                  refine K.DW.done (by kernel_rfl) ?_
                  refine K.thn_normal ?_
                  refine K.KW.ifT rfl ?_
                  refine K.KW.seq ?_
                  -- region 13 ref.go:86
                  refine K.KW.region ?_
                  refine K.RW.q rfl rfl (K.QR.k (v := .slice none 0 0) (by kernel_rfl)) ?_
                  refine K.RW.q rfl rfl (K.QR.k (v := .int .i64 9) (by kernel_rfl)) ?_
                  refine K.RW.nil ?_
                  refine K.thn_normal ?_
                  refine K.KW.ret ?_
                  refine K.thn_ret ?_
                  refine K.blk_ret ?_
                  refine K.thn_ret ?_
                  refine K.thn_ret ?_
                  refine K.blk_ret ?_
                  refine K.thn_ret ?_
                  refine ⟨.inr rfl, (.tuple #[.slice none 0 0, .int .i64 9]), K.res2 rfl rfl rfl, ?_⟩
                  rw [joinR_9 (by assumption) (by assumption) (JI_no (by assumption) (by assumption) (by assumption) (by assumption) (by assumption) (by assumption) (by assumption) (by assumption) (by assumption))]
                  exact ⟨_, _, _, rfl, c_67, K.Own.nil _ _ _ _, rfl⟩
              ·  -- one way
                refine K.RW.q rfl rfl (K.QR.k (v := .int .i64 ((k_48 : Nat) : Int)) (by kernel_rfl)) ?_
                refine K.RW.q rfl rfl (K.QR.k (v := .int .i64 (-1)) (by kernel_rfl)) ?_
                refine K.RW.nil ?_
                refine K.thn_normal ?_
                refine K.KW.seq ?_
                refine K.KW.seq ?_
                -- region 12 ref.go:85
                refine K.KW.drawn (fun w => K.Chg K.No w0 w) (by kernel_rfl) ?_
                intro w_110 e_111 hs_112
                have c_114 := c_56.no e_111
                have z_115 := c_114.size
                have f_116 := f_58.no e_111
                have hS_113 : (fun w => K.Chg K.No w0 w) w_110 := c_114
                refine K.DW.q 0 (by kernel_rfl) rfl rfl (by kernel_rfl) rfl (fun w hS => K.QR.k (v := .int .i64 ((k_48 : Nat) : Int)) (by kernel_rfl)) hS_113 ?_
                refine K.DW.q 1 (by kernel_rfl) rfl rfl (by kernel_rfl) rfl (fun w hS => K.QR.nice (v := .bool (decide ((((k_48 : Nat) : Int) : Int) ≥ (0 : Int)))) (by kernel_rfl) (congrArg Value.bool (decide_eq_true (by omega)))) hS_113 ?_
                refine K.DW.q 2 (by kernel_rfl) rfl rfl (by kernel_rfl) rfl (fun w hS => K.QR.k (v := .bool true) (by kernel_rfl)) hS_113 ?_
                refine K.DW.q 3 (by kernel_rfl) rfl rfl (by kernel_rfl) (by kernel_rfl) (fun w hS => K.QR.k (v := .int .i64 (-1)) (by kernel_rfl)) hS_113 ?_
                refine K.DW.q 4 (by kernel_rfl) rfl rfl (by kernel_rfl) (by kernel_rfl) (fun w hS => K.QR.k (v := .bool false) (by kernel_rfl)) hS_113 ?_
                refine K.DW.q 5 (by kernel_rfl) rfl rfl (by kernel_rfl) rfl (fun w hS => K.QR.k (v := .bool false) (by kernel_rfl)) hS_113 ?_
                refine K.DW.q 6 (by kernel_rfl) rfl rfl (by kernel_rfl) rfl (fun w hS => K.QR.k (v := .bool false) (by kernel_rfl)) hS_113 ?_
                refine K.DW.skip 7 (by kernel_rfl) rfl rfl (by kernel_rfl) (by kernel_rfl) hS_113 ?_
                refine K.DW.skip 8 (by kernel_rfl) rfl rfl (by kernel_rfl) (by kernel_rfl) hS_113 ?_
                refine K.DW.skip 9 (by kernel_rfl) rfl rfl (by kernel_rfl) (by kernel_rfl) hS_113 ?_
                refine K.DW.skip 10 (by kernel_rfl) rfl rfl (by kernel_rfl) (by kernel_rfl) hS_113 ?_
                refine K.DW.skip 11 (by kernel_rfl) rfl rfl (by kernel_rfl) (by kernel_rfl) hS_113 ?_
                refine K.DW.skip 12 (by kernel_rfl) rfl rfl (by kernel_rfl) (by kernel_rfl) hS_113 ?_
                refine K.DW.skip 13 (by kernel_rfl) rfl rfl (by kernel_rfl) (by kernel_rfl) hS_113 ?_
                refine K.DW.skip 14 (by kernel_rfl) rfl rfl (by kernel_rfl) (by kernel_rfl) hS_113 ?_
                refine K.DW.skip 15 (by kernel_rfl) rfl rfl (by kernel_rfl) (by kernel_rfl) hS_113 ?_
                refine K.DW.skip 16 (by kernel_rfl) rfl rfl (by kernel_rfl) (by kernel_rfl) hS_113 ?_
                refine K.DW.skip 17 (by kernel_rfl) rfl rfl (by kernel_rfl) (by kernel_rfl) hS_113 ?_
                refine K.DW.q 18 (by kernel_rfl) rfl rfl (by kernel_rfl) rfl (fun w hS => K.QR.k (v := .bool false) (by kernel_rfl)) hS_113 ?_
                refine K.DW.done (by kernel_rfl) ?_
                refine K.thn_normal ?_
                refine K.KW.ifF rfl ?_
                refine K.KW.skip ?_
                refine K.thn_normal ?_
                refine K.KW.seq ?_
                -- region 14 ref.go:88
                refine K.KW.region ?_
                refine K.RW.q rfl rfl (K.QR.k (v := .int .i64 ((k_48 : Nat) : Int)) (by kernel_rfl)) ?_
                refine K.RW.q rfl rfl (K.QR.nice (v := .bool (decide ((((k_48 : Nat) : Int) : Int) < (0 : Int)))) (by kernel_rfl) (congrArg Value.bool (decide_eq_false (by omega)))) ?_
                refine K.RW.nil ?_
                refine K.thn_normal ?_
                refine K.KW.ifF rfl ?_
                refine K.KW.seq ?_
                -- region 16 ref.go:90
                refine K.KW.region ?_
                refine K.RW.q rfl rfl (K.QR.k (v := .int .i64 (-1)) (by kernel_rfl)) ?_
                refine K.RW.q rfl rfl (K.QR.k (v := .bool true) (by kernel_rfl)) ?_
                refine K.RW.nil ?_
                refine K.thn_normal ?_
                refine K.KW.ifT rfl ?_
                -- region 17 ref.go:91
                refine K.KW.region ?_
                refine K.RW.q rfl rfl (K.QR.k (v := .slice r m1 c1) (by kernel_rfl)) ?_
                refine K.RW.q rfl rfl (K.QR.k (v := .slice a l.length cap) (by kernel_rfl)) ?_
                refine K.RW.q rfl rfl (K.QR.k (v := .int .i64 ((k_48 : Nat) : Int)) (by kernel_rfl)) ?_
                obtain ⟨b_117, of_118, rfl, _⟩ := hl.at_ (by omega)
                refine K.RW.q rfl rfl (K.QR.ix (of_118 + k_48 * 3) 3 rfl rfl rfl Try.underlying53 (by kernel_rfl) (by omega) (by simp)) ?_
                refine K.RW.q rfl rfl (K.QR.ldN [.int .i64 ((l.getD k_48 d3).at_), .int .u64 ((l.getD k_48 d3).old), .int .u64 ((l.getD k_48 d3).new)] rfl rfl (by kernel_rfl) (by kernel_rfl) (K.cells (K.cl (c_114.cell (hl.ld k_48 (by omega) 0 _ rfl) id) (K.cl (c_114.cell (hl.ld k_48 (by omega) 1 _ rfl) id) (K.cl (c_114.cell (hl.ld k_48 (by omega) 2 _ rfl) id) K.cl0))))) ?_
                refine K.RW.l rfl (K.OW.bs rfl [(0, .agg #[.int .i64 ((l.getD k_48 d3).at_), .int .u64 ((l.getD k_48 d3).old), .int .u64 ((l.getD k_48 d3).new)])] [.int .i64 ((l.getD k_48 d3).at_), .int .u64 ((l.getD k_48 d3).old), .int .u64 ((l.getD k_48 d3).new)] rfl rfl (fun w => K.bs_run (P := Try.prog) w 53 97 1 _ _ Try.underlying53 (by kernel_rfl)) ?_) 
                intro w_119 r_120 hr_121 e_122 hs_123 b_124
                have c_125 := c_114.no e_122
                have z_126 := c_125.size
                have f_127 := f_116.no e_122
                have ap_128 : ∀ k, K.Ow r k → ¬ k = r_120 := fun k hk he => absurd (f_116.lt k hk) (by omega)
                refine K.RW.l rfl (K.OW.app (P := Try.prog) (xs := (out).flatMap chgC) (z := .agg #[.int .i64 0, .int .u64 0, .int .u64 0]) (size := 3) (bytes := 24) rfl [.int .i64 ((l.getD k_48 d3).at_), .int .u64 ((l.getD k_48 d3).old), .int .u64 ((l.getD k_48 d3).new)] rfl rfl f_127 rfl Try.underlying53 (by kernel_rfl) rfl (by decide) (by rfl) (fun j u hj => (by rw [Nat.zero_add]; exact b_124.cell hj)) (K.one_cells (by rfl)) (by unfold maxLen; omega) (by omega) (by omega) ?_) 
                intro a_129 cap_130 w_131 e_132 o_133
                have c_134 := c_125.trans e_132 (fun i hi hy => absurd (f_127.base_le i hy) (by omega))
                have z_135 := c_134.size
                have o_133t := K.Own.snoc (c := chgC) (L := out) (⟨(l.getD k_48 d3).at_, (l.getD k_48 d3).old, (l.getD k_48 d3).new⟩ : Chg3) rfl o_133
                have ln_136 : ((out ++ [(⟨(l.getD k_48 d3).at_, (l.getD k_48 d3).old, (l.getD k_48 d3).new⟩ : Chg3)])).length = m1 + 1 := by rw [List.length_append, p_21]; rfl
                refine K.RW.q rfl rfl (K.QR.k (v := .slice a_129 (m1 + 1) cap_130) (by kernel_rfl)) ?_
                refine K.RW.nil ?_
                refine K.blk_normal ?_
                refine K.thn_normal ?_
                -- region 7 ref.go:79
                refine K.KW.region ?_
                refine K.RW.q rfl rfl (K.QR.k (v := .int .i64 ((n : Nat) : Int)) (by kernel_rfl)) ?_
                refine K.RW.q rfl rfl (K.QR.n64 ((((n : Nat) : Int) : Int) + (1 : Int)) ((n + 1 : Nat) : Int) (by kernel_rfl) (by omega)) ?_
                refine K.RW.q rfl rfl (K.QR.k (v := .int .i64 ((n + 1 : Nat) : Int)) (by kernel_rfl)) ?_
                refine K.RW.nil ?_
                refine K.thn_normal ?_
                refine ⟨_, ?_, n + 1, z_38, (out ++ [(⟨(l.getD k_48 d3).at_, (l.getD k_48 d3).old, (l.getD k_48 d3).new⟩ : Chg3)]), a_129, m1 + 1, cap_130, rfl, ⟨by rfl, by rfl, by rfl, by rfl, by rfl, trivial⟩, (by omega), (ln_136), (by omega), (by have := (by assumption : leastP l m at_ z_38).1; omega), (by first | exact JI_m (by assumption) (by assumption) (by assumption) (by assumption) (by assumption) (by assumption) | exact JI_l (by assumption) (by assumption) (by assumption) (by assumption) (by assumption) (by assumption) | exact JI_eq (by assumption) (by assumption) (by assumption) (by assumption) (by assumption) (by assumption) (by assumption) (by assumption) (by assumption) (by assumption) | exact JI_away (by assumption) (by assumption) (by assumption) (by assumption) (by assumption) (by assumption) (by assumption) (by assumption) (by assumption) (by assumption)), ((by assumption)), ((by assumption)), c_134, o_133t⟩
                omega
            ·  -- one way
              refine K.RW.q rfl rfl (K.QR.k (v := .slice b m.length cap') (by kernel_rfl)) ?_
              refine K.RW.q rfl rfl (K.QR.k (v := .int .i64 z_38) (by kernel_rfl)) ?_
              refine K.RW.l rfl (K.OW.call rfl [.slice b m.length cap', .int .i64 z_38] rfl rfl (by kernel_rfl) (rfind_ok _ _ m _ _ (by first | omega | (simp; omega) | (simp; done)) (hk.no c_45)) ?_) 
              rintro v_138 w_137 ⟨c_139, h_140⟩
              have c_141 := c_45.no c_139
              have z_142 := c_141.size
              have f_143 := f_47.no c_139
              rcases h_140 with ⟨k_144, rfl, h_145, g_146⟩ | ⟨rfl, g_147⟩
              ·  -- one way
                refine K.RW.q rfl rfl (K.QR.k (v := .int .i64 (-1)) (by kernel_rfl)) ?_
                refine K.RW.q rfl rfl (K.QR.k (v := .int .i64 ((k_144 : Nat) : Int)) (by kernel_rfl)) ?_
                refine K.RW.nil ?_
                refine K.thn_normal ?_
                refine K.KW.seq ?_
                refine K.KW.seq ?_
                -- region 12 ref.go:85
                refine K.KW.drawn (fun w => K.Chg K.No w0 w) (by kernel_rfl) ?_
                intro w_148 e_149 hs_150
                have c_152 := c_141.no e_149
                have z_153 := c_152.size
                have f_154 := f_143.no e_149
                have hS_151 : (fun w => K.Chg K.No w0 w) w_148 := c_152
                refine K.DW.q 0 (by kernel_rfl) rfl rfl (by kernel_rfl) rfl (fun w hS => K.QR.k (v := .int .i64 (-1)) (by kernel_rfl)) hS_151 ?_
                refine K.DW.q 1 (by kernel_rfl) rfl rfl (by kernel_rfl) rfl (fun w hS => K.QR.k (v := .bool false) (by kernel_rfl)) hS_151 ?_
                refine K.DW.q 2 (by kernel_rfl) rfl rfl (by kernel_rfl) rfl (fun w hS => K.QR.k (v := .bool false) (by kernel_rfl)) hS_151 ?_
                refine K.DW.skip 3 (by kernel_rfl) rfl rfl (by kernel_rfl) (by kernel_rfl) hS_151 ?_
                refine K.DW.skip 4 (by kernel_rfl) rfl rfl (by kernel_rfl) (by kernel_rfl) hS_151 ?_
                refine K.DW.q 5 (by kernel_rfl) rfl rfl (by kernel_rfl) rfl (fun w hS => K.QR.k (v := .bool false) (by kernel_rfl)) hS_151 ?_
                refine K.DW.q 6 (by kernel_rfl) rfl rfl (by kernel_rfl) rfl (fun w hS => K.QR.k (v := .bool false) (by kernel_rfl)) hS_151 ?_
                refine K.DW.skip 7 (by kernel_rfl) rfl rfl (by kernel_rfl) (by kernel_rfl) hS_151 ?_
                refine K.DW.skip 8 (by kernel_rfl) rfl rfl (by kernel_rfl) (by kernel_rfl) hS_151 ?_
                refine K.DW.skip 9 (by kernel_rfl) rfl rfl (by kernel_rfl) (by kernel_rfl) hS_151 ?_
                refine K.DW.skip 10 (by kernel_rfl) rfl rfl (by kernel_rfl) (by kernel_rfl) hS_151 ?_
                refine K.DW.skip 11 (by kernel_rfl) rfl rfl (by kernel_rfl) (by kernel_rfl) hS_151 ?_
                refine K.DW.skip 12 (by kernel_rfl) rfl rfl (by kernel_rfl) (by kernel_rfl) hS_151 ?_
                refine K.DW.skip 13 (by kernel_rfl) rfl rfl (by kernel_rfl) (by kernel_rfl) hS_151 ?_
                refine K.DW.skip 14 (by kernel_rfl) rfl rfl (by kernel_rfl) (by kernel_rfl) hS_151 ?_
                refine K.DW.skip 15 (by kernel_rfl) rfl rfl (by kernel_rfl) (by kernel_rfl) hS_151 ?_
                refine K.DW.skip 16 (by kernel_rfl) rfl rfl (by kernel_rfl) (by kernel_rfl) hS_151 ?_
                refine K.DW.skip 17 (by kernel_rfl) rfl rfl (by kernel_rfl) (by kernel_rfl) hS_151 ?_
                refine K.DW.q 18 (by kernel_rfl) rfl rfl (by kernel_rfl) rfl (fun w hS => K.QR.k (v := .bool false) (by kernel_rfl)) hS_151 ?_
                refine K.DW.done (by kernel_rfl) ?_
                refine K.thn_normal ?_
                refine K.KW.ifF rfl ?_
                refine K.KW.skip ?_
                refine K.thn_normal ?_
                refine K.KW.seq ?_
                -- region 14 ref.go:88
                refine K.KW.region ?_
                refine K.RW.q rfl rfl (K.QR.k (v := .int .i64 (-1)) (by kernel_rfl)) ?_
                refine K.RW.q rfl rfl (K.QR.k (v := .bool true) (by kernel_rfl)) ?_
                refine K.RW.nil ?_
                refine K.thn_normal ?_
                refine K.KW.ifT rfl ?_
                -- region 15 ref.go:89
                refine K.KW.region ?_
                refine K.RW.q rfl rfl (K.QR.k (v := .slice r m1 c1) (by kernel_rfl)) ?_
                refine K.RW.q rfl rfl (K.QR.k (v := .slice b m.length cap') (by kernel_rfl)) ?_
                refine K.RW.q rfl rfl (K.QR.k (v := .int .i64 ((k_144 : Nat) : Int)) (by kernel_rfl)) ?_
                obtain ⟨b_155, of_156, rfl, _⟩ := hk.at_ (by omega)
                refine K.RW.q rfl rfl (K.QR.ix (of_156 + k_144 * 3) 3 rfl rfl rfl Try.underlying53 (by kernel_rfl) (by omega) (by simp)) ?_
                refine K.RW.q rfl rfl (K.QR.ldN [.int .i64 ((m.getD k_144 d3).at_), .int .u64 ((m.getD k_144 d3).old), .int .u64 ((m.getD k_144 d3).new)] rfl rfl (by kernel_rfl) (by kernel_rfl) (K.cells (K.cl (c_152.cell (hk.ld k_144 (by omega) 0 _ rfl) id) (K.cl (c_152.cell (hk.ld k_144 (by omega) 1 _ rfl) id) (K.cl (c_152.cell (hk.ld k_144 (by omega) 2 _ rfl) id) K.cl0))))) ?_
                refine K.RW.l rfl (K.OW.bs rfl [(0, .agg #[.int .i64 ((m.getD k_144 d3).at_), .int .u64 ((m.getD k_144 d3).old), .int .u64 ((m.getD k_144 d3).new)])] [.int .i64 ((m.getD k_144 d3).at_), .int .u64 ((m.getD k_144 d3).old), .int .u64 ((m.getD k_144 d3).new)] rfl rfl (fun w => K.bs_run (P := Try.prog) w 53 97 1 _ _ Try.underlying53 (by kernel_rfl)) ?_) 
                intro w_157 r_158 hr_159 e_160 hs_161 b_162
                have c_163 := c_152.no e_160
                have z_164 := c_163.size
                have f_165 := f_154.no e_160
                have ap_166 : ∀ k, K.Ow r k → ¬ k = r_158 := fun k hk he => absurd (f_154.lt k hk) (by omega)
                refine K.RW.l rfl (K.OW.app (P := Try.prog) (xs := (out).flatMap chgC) (z := .agg #[.int .i64 0, .int .u64 0, .int .u64 0]) (size := 3) (bytes := 24) rfl [.int .i64 ((m.getD k_144 d3).at_), .int .u64 ((m.getD k_144 d3).old), .int .u64 ((m.getD k_144 d3).new)] rfl rfl f_165 rfl Try.underlying53 (by kernel_rfl) rfl (by decide) (by rfl) (fun j u hj => (by rw [Nat.zero_add]; exact b_162.cell hj)) (K.one_cells (by rfl)) (by unfold maxLen; omega) (by omega) (by omega) ?_) 
                intro a_167 cap_168 w_169 e_170 o_171
                have c_172 := c_163.trans e_170 (fun i hi hy => absurd (f_165.base_le i hy) (by omega))
                have z_173 := c_172.size
                have o_171t := K.Own.snoc (c := chgC) (L := out) (⟨(m.getD k_144 d3).at_, (m.getD k_144 d3).old, (m.getD k_144 d3).new⟩ : Chg3) rfl o_171
                have ln_174 : ((out ++ [(⟨(m.getD k_144 d3).at_, (m.getD k_144 d3).old, (m.getD k_144 d3).new⟩ : Chg3)])).length = m1 + 1 := by rw [List.length_append, p_21]; rfl
                refine K.RW.q rfl rfl (K.QR.k (v := .slice a_167 (m1 + 1) cap_168) (by kernel_rfl)) ?_
                refine K.RW.nil ?_
                refine K.blk_normal ?_
                refine K.thn_normal ?_
                -- region 7 ref.go:79
                refine K.KW.region ?_
                refine K.RW.q rfl rfl (K.QR.k (v := .int .i64 ((n : Nat) : Int)) (by kernel_rfl)) ?_
                refine K.RW.q rfl rfl (K.QR.n64 ((((n : Nat) : Int) : Int) + (1 : Int)) ((n + 1 : Nat) : Int) (by kernel_rfl) (by omega)) ?_
                refine K.RW.q rfl rfl (K.QR.k (v := .int .i64 ((n + 1 : Nat) : Int)) (by kernel_rfl)) ?_
                refine K.RW.nil ?_
                refine K.thn_normal ?_
                refine ⟨_, ?_, n + 1, z_38, (out ++ [(⟨(m.getD k_144 d3).at_, (m.getD k_144 d3).old, (m.getD k_144 d3).new⟩ : Chg3)]), a_167, m1 + 1, cap_168, rfl, ⟨by rfl, by rfl, by rfl, by rfl, by rfl, trivial⟩, (by omega), (ln_174), (by omega), (by have := (by assumption : leastP l m at_ z_38).1; omega), (by first | exact JI_m (by assumption) (by assumption) (by assumption) (by assumption) (by assumption) (by assumption) | exact JI_l (by assumption) (by assumption) (by assumption) (by assumption) (by assumption) (by assumption) | exact JI_eq (by assumption) (by assumption) (by assumption) (by assumption) (by assumption) (by assumption) (by assumption) (by assumption) (by assumption) (by assumption) | exact JI_away (by assumption) (by assumption) (by assumption) (by assumption) (by assumption) (by assumption) (by assumption) (by assumption) (by assumption) (by assumption)), ((by assumption)), ((by assumption)), c_172, o_171t⟩
                omega
              ·  -- one way
                refine K.RW.q rfl rfl (K.QR.k (v := .int .i64 (-1)) (by kernel_rfl)) ?_
                refine K.RW.q rfl rfl (K.QR.k (v := .int .i64 (-1)) (by kernel_rfl)) ?_
                refine K.RW.nil ?_
                refine K.thn_normal ?_
                refine K.KW.seq ?_
                refine K.KW.seq ?_
                -- region 12 ref.go:85
                refine K.KW.drawn (fun w => K.Chg K.No w0 w) (by kernel_rfl) ?_
                intro w_175 e_176 hs_177
                have c_179 := c_141.no e_176
                have z_180 := c_179.size
                have f_181 := f_143.no e_176
                have hS_178 : (fun w => K.Chg K.No w0 w) w_175 := c_179
                refine K.DW.q 0 (by kernel_rfl) rfl rfl (by kernel_rfl) rfl (fun w hS => K.QR.k (v := .int .i64 (-1)) (by kernel_rfl)) hS_178 ?_
                refine K.DW.q 1 (by kernel_rfl) rfl rfl (by kernel_rfl) rfl (fun w hS => K.QR.k (v := .bool false) (by kernel_rfl)) hS_178 ?_
                refine K.DW.q 2 (by kernel_rfl) rfl rfl (by kernel_rfl) rfl (fun w hS => K.QR.k (v := .bool false) (by kernel_rfl)) hS_178 ?_
                refine K.DW.skip 3 (by kernel_rfl) rfl rfl (by kernel_rfl) (by kernel_rfl) hS_178 ?_
                refine K.DW.skip 4 (by kernel_rfl) rfl rfl (by kernel_rfl) (by kernel_rfl) hS_178 ?_
                refine K.DW.q 5 (by kernel_rfl) rfl rfl (by kernel_rfl) rfl (fun w hS => K.QR.k (v := .bool false) (by kernel_rfl)) hS_178 ?_
                refine K.DW.q 6 (by kernel_rfl) rfl rfl (by kernel_rfl) rfl (fun w hS => K.QR.k (v := .bool false) (by kernel_rfl)) hS_178 ?_
                refine K.DW.skip 7 (by kernel_rfl) rfl rfl (by kernel_rfl) (by kernel_rfl) hS_178 ?_
                refine K.DW.skip 8 (by kernel_rfl) rfl rfl (by kernel_rfl) (by kernel_rfl) hS_178 ?_
                refine K.DW.skip 9 (by kernel_rfl) rfl rfl (by kernel_rfl) (by kernel_rfl) hS_178 ?_
                refine K.DW.skip 10 (by kernel_rfl) rfl rfl (by kernel_rfl) (by kernel_rfl) hS_178 ?_
                refine K.DW.skip 11 (by kernel_rfl) rfl rfl (by kernel_rfl) (by kernel_rfl) hS_178 ?_
                refine K.DW.skip 12 (by kernel_rfl) rfl rfl (by kernel_rfl) (by kernel_rfl) hS_178 ?_
                refine K.DW.skip 13 (by kernel_rfl) rfl rfl (by kernel_rfl) (by kernel_rfl) hS_178 ?_
                refine K.DW.skip 14 (by kernel_rfl) rfl rfl (by kernel_rfl) (by kernel_rfl) hS_178 ?_
                refine K.DW.skip 15 (by kernel_rfl) rfl rfl (by kernel_rfl) (by kernel_rfl) hS_178 ?_
                refine K.DW.skip 16 (by kernel_rfl) rfl rfl (by kernel_rfl) (by kernel_rfl) hS_178 ?_
                refine K.DW.skip 17 (by kernel_rfl) rfl rfl (by kernel_rfl) (by kernel_rfl) hS_178 ?_
                refine K.DW.q 18 (by kernel_rfl) rfl rfl (by kernel_rfl) rfl (fun w hS => K.QR.k (v := .bool false) (by kernel_rfl)) hS_178 ?_
                refine K.DW.done (by kernel_rfl) ?_
                refine K.thn_normal ?_
                refine K.KW.ifF rfl ?_
                refine K.KW.skip ?_
                refine K.thn_normal ?_
                refine K.KW.seq ?_
                -- region 14 ref.go:88
                exfalso
                rcases (by assumption : (∃ k, k < l.length ∧ (l.getD k d3).at_ = z_38) ∨ _) with ⟨k, h1, h2⟩ | ⟨k, h1, h2⟩
                · exact (by assumption : ∀ i, i < l.length → (l.getD i d3).at_ ≠ z_38) k h1 h2
                · exact (by assumption : ∀ i, i < m.length → (m.getD i d3).at_ ≠ z_38) k h1 h2
        ·  -- no
          refine K.RW.q rfl rfl (K.QR.nice (v := .bool (decide ((((n : Nat) : Int) : Int) < (((l.length + m.length : Nat) : Int) : Int)))) (by kernel_rfl) (congrArg Value.bool (decide_eq_false h_29))) ?_
          refine K.RW.nil ?_
          refine K.thn_normal ?_
          refine K.KW.ifF rfl ?_
          refine K.KW.exit ?_
          refine K.thn_exit ?_
          refine K.thn_exit ?_
          refine K.blk_hit ?_
          refine K.thn_normal ?_
          refine K.KW.seq ?_
          -- region 20 ref.go:96
          refine K.KW.region ?_
          refine K.RW.q rfl rfl (K.QR.k (v := .slice r m1 c1) (by kernel_rfl)) ?_
          refine K.RW.q rfl rfl (K.QR.k (v := .slice r m1 c1) (by kernel_rfl)) ?_
          refine K.RW.q rfl rfl (K.QR.k (v := .int .i64 0) (by kernel_rfl)) ?_
          refine K.RW.nil ?_
          refine K.thn_normal ?_
          refine K.KW.ret ?_
          refine ⟨.inr rfl, (.tuple #[.slice r m1 c1, .int .i64 0]), K.res2 rfl rfl rfl, ?_⟩
          rw [joinR_0 (j := out) (by assumption) (by assumption) (by first | exact JI_none (by assumption) (by assumption) | exact JI_full (by assumption) (by omega))]
          exact ⟨_, _, _, rfl, c_19, f_27, p_21⟩
    ·  -- False
      rw [hb_14] at hv_10; subst hv_10
      refine K.RW.q rfl (by kernel_rfl) (K.QR.k (v := .bool true) (by kernel_rfl)) ?_
      refine K.RW.q rfl rfl (K.QR.k (v := .bool true) (by kernel_rfl)) ?_
      refine K.RW.nil ?_
      refine K.thn_normal ?_
      refine K.KW.ifT rfl ?_
      refine K.KW.seq ?_
      -- region 2 ref.go:75
      refine K.KW.region ?_
      refine K.RW.q rfl rfl (K.QR.k (v := .slice none 0 0) (by kernel_rfl)) ?_
      refine K.RW.q rfl rfl (K.QR.k (v := .int .i64 3) (by kernel_rfl)) ?_
      refine K.RW.nil ?_
      refine K.thn_normal ?_
      refine K.KW.ret ?_
      refine K.thn_ret ?_
      refine ⟨.inr rfl, (.tuple #[.slice none 0 0, .int .i64 3]), K.res2 rfl rfl rfl, ?_⟩
      rw [joinR_3 (by rintro ⟨h1, h2⟩; simp_all)]
      exact ⟨_, _, _, rfl, c_12, K.Own.nil _ _ _ _, rfl⟩
  ·  -- False
    rw [hb_7] at hv_3; subst hv_3
    refine K.RW.q rfl rfl (K.QR.k (v := .bool true) (by kernel_rfl)) ?_
    refine K.RW.q rfl rfl (K.QR.k (v := .bool true) (by kernel_rfl)) ?_
    refine K.RW.skip rfl (by kernel_rfl) ?_
    refine K.RW.skip rfl (by kernel_rfl) ?_
    refine K.RW.skip rfl (by kernel_rfl) ?_
    refine K.RW.q rfl rfl (K.QR.k (v := .bool true) (by kernel_rfl)) ?_
    refine K.RW.nil ?_
    refine K.thn_normal ?_
    refine K.KW.ifT rfl ?_
    refine K.KW.seq ?_
    -- region 2 ref.go:75
    refine K.KW.region ?_
    refine K.RW.q rfl rfl (K.QR.k (v := .slice none 0 0) (by kernel_rfl)) ?_
    refine K.RW.q rfl rfl (K.QR.k (v := .int .i64 3) (by kernel_rfl)) ?_
    refine K.RW.nil ?_
    refine K.thn_normal ?_
    refine K.KW.ret ?_
    refine K.thn_ret ?_
    refine ⟨.inr rfl, (.tuple #[.slice none 0 0, .int .i64 3]), K.res2 rfl rfl rfl, ?_⟩
    rw [joinR_3 (by rintro ⟨h1, h2⟩; simp_all)]
    exact ⟨_, _, _, rfl, c_5, K.Own.nil _ _ _ _, rfl⟩

end Go.Proofs.Ytcmlompigmhddaa
