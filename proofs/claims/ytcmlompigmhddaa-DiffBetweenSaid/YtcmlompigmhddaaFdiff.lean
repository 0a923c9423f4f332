/- Contracts of package diff. -/
import Derived.Test.YtcmlompigmhddaaFlist
namespace Go.Proofs.Ytcmlompigmhddaa
open Go.RowKit
set_option linter.unusedVariables false
attribute [local irreducible] K.KW K.RW K.DW K.OW K.QR K.KC

structure Chg3 where
  at_ : Int
  old : Int
  new : Int
  deriving DecidableEq
def d3 : Chg3 := ⟨0, 0, 0⟩
def chgC (c : Chg3) : List Value := [.int .i64 c.at_, .int .u64 c.old, .int .u64 c.new]
abbrev RCh (w : World) (a : Option Addr) (l : List Chg3) : Prop := K.RowE w a l.length 3 (fun i => chgC (l.getD i d3))

theorem eqC_t {a b c a' b' c' : Int} (h : a = a' ∧ b = b' ∧ c = c') (w : World) : (Op.equal 46 (.agg #[.int .i64 a, .int .u64 b, .int .u64 c]) (.agg #[.int .i64 a', .int .u64 b', .int .u64 c'])).run Try.prog w = .ok true w := by
  obtain ⟨rfl, rfl, rfl⟩ := h
  simp [go_sem, Op.equal, Op.maxDepth]
theorem eqC_f {a b c a' b' c' : Int} (h : ¬ (a = a' ∧ b = b' ∧ c = c')) (w : World) : (Op.equal 46 (.agg #[.int .i64 a, .int .u64 b, .int .u64 c]) (.agg #[.int .i64 a', .int .u64 b', .int .u64 c'])).run Try.prog w = .ok false w := by
  by_cases h1 : a = a' <;> by_cases h2 : b = b' <;> by_cases h3 : c = c' <;> first | (exfalso; exact h ⟨h1, h2, h3⟩) | simp [go_sem, Op.equal, Op.maxDepth, h1, h2, h3]

theorem eqR_t {a b c a' b' c' : Int} (h : a = a' ∧ b = b' ∧ c = c') (w : World) : (Op.equal 97 (.agg #[.int .i64 a, .int .u64 b, .int .u64 c]) (.agg #[.int .i64 a', .int .u64 b', .int .u64 c'])).run Try.prog w = .ok true w := by
  obtain ⟨rfl, rfl, rfl⟩ := h
  simp [go_sem, Op.equal, Op.maxDepth]
theorem eqR_f {a b c a' b' c' : Int} (h : ¬ (a = a' ∧ b = b' ∧ c = c')) (w : World) : (Op.equal 97 (.agg #[.int .i64 a, .int .u64 b, .int .u64 c]) (.agg #[.int .i64 a', .int .u64 b', .int .u64 c'])).run Try.prog w = .ok false w := by
  by_cases h1 : a = a' <;> by_cases h2 : b = b' <;> by_cases h3 : c = c' <;> first | (exfalso; exact h ⟨h1, h2, h3⟩) | simp [go_sem, Op.equal, Op.maxDepth, h1, h2, h3]

/-- the changes between xs and ys among the first k words -/
def between (xs ys : List Int) : Nat → List Chg3
  | 0 => []
  | k + 1 => if xs.getD k 0 = ys.getD k 0 then between xs ys k else between xs ys k ++ [⟨k, xs.getD k 0, ys.getD k 0⟩]
theorem between_le (xs ys : List Int) (k : Nat) : (between xs ys k).length ≤ k := by
  induction k with
  | zero => simp [between]
  | succ k ih => unfold between; split <;> first | omega | (simp; omega)
theorem between_eq {xs ys : List Int} {k : Nat} (h : xs.getD k 0 = ys.getD k 0) : between xs ys (k + 1) = between xs ys k := if_pos h
/-- what Between answers -/
def betweenR (xs ys : List Int) : Int × List Chg3 := if xs.length = ys.length then (0, between xs ys xs.length) else (3, [])
theorem betweenR_0 {xs ys : List Int} (h : xs.length = ys.length) : betweenR xs ys = (0, between xs ys xs.length) := if_pos h
theorem betweenR_3 {xs ys : List Int} (h : ¬ xs.length = ys.length) : betweenR xs ys = (3, []) := if_neg h
theorem between_ne {xs ys : List Int} {k : Nat} (h : ¬ xs.getD k 0 = ys.getD k 0) : between xs ys (k + 1) = between xs ys k ++ [⟨k, xs.getD k 0, ys.getD k 0⟩] := if_neg h

set_option maxHeartbeats 1000000 in
set_option maxRecDepth 100000 in
theorem between_ok (a a' : Option Addr) (cap cap' : Nat) (xs ys : List Int) (w0 : World) (hm : xs.length * 24 ≤ 140737488351232) (hm' : ys.length ≤ 9223372036854775807) (hx : RU64 w0 a xs) (hy : RU64 w0 a' ys) :
    K.KC Try.prog 25 #[.slice a xs.length cap, .slice a' ys.length cap'] w0 (fun v w' => ∃ r m c, v = .tuple #[.slice r m c, .int .i64 (betweenR xs ys).1] ∧ K.Chg K.No w0 w' ∧ K.Own w' w0.heap.size 46 3 r m c (((betweenR xs ys).2).flatMap chgC) ∧ (betweenR xs ys).2.length = m) := by
  refine K.KC.mk (n := 42) Try.func25 rfl rfl [.slice a xs.length cap, .slice a' ys.length cap'] rfl rfl ?_
  refine K.KW.seq ?_
  -- region 0 diff.go:17
  refine K.KW.region ?_
  refine K.RW.q rfl rfl (K.QR.k (v := .slice none 0 0) (by kernel_rfl)) ?_
  refine K.RW.q rfl rfl (K.QR.k (v := .int .i64 0) (by kernel_rfl)) ?_
  refine K.RW.nil ?_
  refine K.thn_normal ?_
  refine K.KW.seq ?_
  refine K.KW.seq ?_
  -- region 1 diff.go:18
  refine K.KW.region ?_
  refine K.RW.q rfl rfl (K.QR.k (v := .slice a xs.length cap) (by kernel_rfl)) ?_
  refine K.RW.q rfl rfl (K.QR.len (P := Try.prog) rfl rfl Try.underlying32) ?_
  refine K.RW.q rfl rfl (K.QR.k (v := .slice a' ys.length cap') (by kernel_rfl)) ?_
  refine K.RW.q rfl rfl (K.QR.len (P := Try.prog) rfl rfl Try.underlying32) ?_
  by_cases h1 : (((xs.length : Nat) : Int) : Int) = (((ys.length : Nat) : Int) : Int)
  ·  -- yes
    refine K.RW.q rfl rfl (K.QR.nice (v := .bool ((((xs.length : Nat) : Int) : Int) != (((ys.length : Nat) : Int) : Int))) (by kernel_rfl) (congrArg Value.bool (bne_eq_false_iff_eq.2 h1))) ?_
    refine K.RW.nil ?_
    refine K.thn_normal ?_
    refine K.KW.ifF rfl ?_
    refine K.KW.skip ?_
    refine K.thn_normal ?_
    refine K.KW.seq ?_
    -- region 3 diff.go:21
    refine K.KW.region ?_
    refine K.RW.q rfl rfl (K.QR.k (v := .slice none 0 0) (by kernel_rfl)) ?_
    refine K.RW.nil ?_
    refine K.thn_normal ?_
    refine K.KW.seq ?_
    refine K.KW.seq ?_
    -- region 4 diff.go:22
    refine K.KW.region ?_
    refine K.RW.q rfl rfl (K.QR.k (v := .slice a xs.length cap) (by kernel_rfl)) ?_
    refine K.RW.q rfl rfl (K.QR.len (P := Try.prog) rfl rfl Try.underlying32) ?_
    refine K.RW.q rfl rfl (K.QR.k (v := .int .i64 0) (by kernel_rfl)) ?_
    refine K.RW.nil ?_
    refine K.thn_normal ?_
    refine K.KW.block ?_
    refine K.KW.loop (fun m F w2 => ∃ (k : Nat) (r : Option Addr) (m1 : Nat) (c1 : Nat), m = xs.length - k ∧ K.Sl F [(0, .slice a xs.length cap), (1, .slice a' ys.length cap'), (4, .slice none 0 0), (5, .int .i64 0), (6, .slice r m1 c1), (14, .int .i64 ((xs.length : Nat) : Int)), (15, .int .i64 ((k : Nat) : Int))] ∧ k ≤ xs.length ∧ (between xs ys k).length = m1 ∧ m1 ≤ k ∧ xs.length = ys.length ∧ K.Chg K.No w0 w2 ∧ K.Own w2 w0.heap.size 46 3 r m1 c1 ((between xs ys k).flatMap chgC)) ((fun (k : Nat) (r : Option Addr) (m1 : Nat) (c1 : Nat) => xs.length - k) 0 none 0 0) ?_ ?_
    · -- the loop begins
      exact ⟨0, none, 0, 0, rfl, ⟨by rfl, by rfl, by rfl, by rfl, by rfl, by rfl, by rfl, trivial⟩, (by omega), (rfl), (by omega), (by omega), (K.Chg.refl _), K.Own.nil _ _ _ _⟩
    · -- a round
      intro m3 F4 w2 hI
      obtain ⟨k, r, m1, c1, rfl, sl5, p7, p8, p9, p10, c6, f11⟩ := hI
      rw [← K.Sl.puts sl5]; clear sl5
      have z12 := c6.size
      refine K.KW.seq ?_
      -- region 5 diff.go:22
      refine K.KW.region ?_
      by_cases h13 : (((k : Nat) : Int) : Int) < (((xs.length : Nat) : Int) : Int)
      ·  -- yes
        refine K.RW.q rfl rfl (K.QR.nice (v := .bool (decide ((((k : Nat) : Int) : Int) < (((xs.length : Nat) : Int) : Int)))) (by kernel_rfl) (congrArg Value.bool (decide_eq_true h13))) ?_
        refine K.RW.nil ?_
        refine K.thn_normal ?_
        refine K.KW.seq ?_
        refine K.KW.ifT rfl ?_
        refine K.KW.skip ?_
        refine K.thn_normal ?_
        refine K.KW.seq ?_
        refine K.KW.block ?_
        refine K.KW.seq ?_
        -- region 6 diff.go:22
        refine K.KW.region ?_
        refine K.RW.q rfl rfl (K.QR.k (v := .int .i64 ((k : Nat) : Int)) (by kernel_rfl)) ?_
        refine K.RW.q rfl rfl (K.QR.k (v := .int .i64 ((k : Nat) : Int)) (by kernel_rfl)) ?_
        refine K.RW.nil ?_
        refine K.thn_normal ?_
        refine K.KW.seq ?_
        -- region 7 diff.go:23
        obtain ⟨b14, of15, rfl, _⟩ := hx.at_ (by omega)
        obtain ⟨b16, of17, rfl, _⟩ := hy.at_ (by omega)
        refine K.KW.drawn (fun w => K.Chg K.No w0 w) (by kernel_rfl) ?_
        intro w18 e19 hs20
        have c22 := c6.no e19
        have z23 := c22.size
        have f24 := f11.no e19
        have hS21 : (fun w => K.Chg K.No w0 w) w18 := c22
        refine K.DW.q 0 (by kernel_rfl) rfl rfl (by kernel_rfl) rfl (fun w hS => K.QR.k (v := .slice (some ⟨b14, of15, none⟩) xs.length cap) (by kernel_rfl)) hS21 ?_
        refine K.DW.q 1 (by kernel_rfl) rfl rfl (by kernel_rfl) rfl (fun w hS => K.QR.k (v := .int .i64 ((k : Nat) : Int)) (by kernel_rfl)) hS21 ?_
        refine K.DW.q 2 (by kernel_rfl) rfl rfl (by kernel_rfl) rfl (fun w hS => K.QR.ix (of15 + k * 1) 1 rfl rfl rfl Try.underlying32 (by kernel_rfl) (by omega) (by simp)) hS21 ?_
        refine K.DW.q 3 (by kernel_rfl) rfl rfl (by kernel_rfl) rfl (fun w hS => K.QR.ld1 (v := .int .u64 (xs.getD k 0)) rfl rfl (by kernel_rfl) (hS.cell (hx.ld k (by omega) 0 _ rfl) id)) hS21 ?_
        refine K.DW.q 4 (by kernel_rfl) rfl rfl (by kernel_rfl) rfl (fun w hS => K.QR.k (v := .slice (some ⟨b16, of17, none⟩) ys.length cap') (by kernel_rfl)) hS21 ?_
        refine K.DW.q 5 (by kernel_rfl) rfl rfl (by kernel_rfl) rfl (fun w hS => K.QR.k (v := .int .i64 ((k : Nat) : Int)) (by kernel_rfl)) hS21 ?_
        refine K.DW.q 6 (by kernel_rfl) rfl rfl (by kernel_rfl) rfl (fun w hS => K.QR.ix (of17 + k * 1) 1 rfl rfl rfl Try.underlying32 (by kernel_rfl) (by omega) (by simp)) hS21 ?_
        refine K.DW.q 7 (by kernel_rfl) rfl rfl (by kernel_rfl) rfl (fun w hS => K.QR.ld1 (v := .int .u64 (ys.getD k 0)) rfl rfl (by kernel_rfl) (hS.cell (hy.ld k (by omega) 0 _ rfl) id)) hS21 ?_
        by_cases h25 : (xs.getD k 0 : Int) = (ys.getD k 0 : Int)
        ·  -- yes
          refine K.DW.q 8 (by kernel_rfl) rfl rfl (by kernel_rfl) rfl (fun w hS => K.QR.nice (v := .bool ((xs.getD k 0 : Int) != (ys.getD k 0 : Int))) (by kernel_rfl) (congrArg Value.bool (bne_eq_false_iff_eq.2 h25))) hS21 ?_
          refine K.DW.done (by kernel_rfl) ?_
          refine K.thn_normal ?_
          refine K.KW.ifF rfl ?_
          refine K.KW.skip ?_
          refine K.blk_normal ?_
          refine K.thn_normal ?_
          -- region 9 diff.go:22
          refine K.KW.region ?_
          refine K.RW.q rfl rfl (K.QR.n64 ((((k : Nat) : Int) : Int) + (1 : Int)) ((k + 1 : Nat) : Int) (by kernel_rfl) (by omega)) ?_
          refine K.RW.q rfl rfl (K.QR.k (v := .int .i64 ((k + 1 : Nat) : Int)) (by kernel_rfl)) ?_
          refine K.RW.nil ?_
          refine K.thn_normal ?_
          refine ⟨_, ?_, k + 1, r, m1, c1, rfl, ⟨by rfl, by rfl, by rfl, by rfl, by rfl, by rfl, by rfl, trivial⟩, (by omega), ((by first | (rw [between_eq (by assumption)]; exact p8) | (rw [between_ne (by assumption)]; exact p8))), (by omega), (by omega), c22, (by first | (rw [between_eq (by assumption)]; exact f24) | (rw [between_ne (by assumption)]; exact f24))⟩
          omega
        ·  -- no
          refine K.DW.q 8 (by kernel_rfl) rfl rfl (by kernel_rfl) rfl (fun w hS => K.QR.nice (v := .bool ((xs.getD k 0 : Int) != (ys.getD k 0 : Int))) (by kernel_rfl) (congrArg Value.bool (bne_iff_ne.2 h25))) hS21 ?_
          refine K.DW.done (by kernel_rfl) ?_
          refine K.thn_normal ?_
          refine K.KW.ifT rfl ?_
          -- region 8 diff.go:24
          refine K.KW.drawn (fun w => K.Chg K.No w0 w) (by kernel_rfl) ?_
          intro w26 e27 hs28
          have c30 := c22.no e27
          have z31 := c30.size
          have f32 := f24.no e27
          have hS29 : (fun w => K.Chg K.No w0 w) w26 := c30
          refine K.DW.q 0 (by kernel_rfl) rfl rfl (by kernel_rfl) rfl (fun w hS => K.QR.k (v := .slice r m1 c1) (by kernel_rfl)) hS29 ?_
          refine K.DW.q 1 (by kernel_rfl) rfl rfl (by kernel_rfl) rfl (fun w hS => K.QR.k (v := .int .i64 ((k : Nat) : Int)) (by kernel_rfl)) hS29 ?_
          refine K.DW.q 2 (by kernel_rfl) rfl rfl (by kernel_rfl) rfl (fun w hS => K.QR.k (v := .slice (some ⟨b14, of15, none⟩) xs.length cap) (by kernel_rfl)) hS29 ?_
          refine K.DW.q 3 (by kernel_rfl) rfl rfl (by kernel_rfl) rfl (fun w hS => K.QR.k (v := .int .i64 ((k : Nat) : Int)) (by kernel_rfl)) hS29 ?_
          refine K.DW.q 4 (by kernel_rfl) rfl rfl (by kernel_rfl) rfl (fun w hS => K.QR.ix (of15 + k * 1) 1 rfl rfl rfl Try.underlying32 (by kernel_rfl) (by omega) (by simp)) hS29 ?_
          refine K.DW.q 5 (by kernel_rfl) rfl rfl (by kernel_rfl) rfl (fun w hS => K.QR.ld1 (v := .int .u64 (xs.getD k 0)) rfl rfl (by kernel_rfl) (hS.cell (hx.ld k (by omega) 0 _ rfl) id)) hS29 ?_
          refine K.DW.q 6 (by kernel_rfl) rfl rfl (by kernel_rfl) rfl (fun w hS => K.QR.k (v := .slice (some ⟨b16, of17, none⟩) ys.length cap') (by kernel_rfl)) hS29 ?_
          refine K.DW.q 7 (by kernel_rfl) rfl rfl (by kernel_rfl) rfl (fun w hS => K.QR.k (v := .int .i64 ((k : Nat) : Int)) (by kernel_rfl)) hS29 ?_
          refine K.DW.q 8 (by kernel_rfl) rfl rfl (by kernel_rfl) rfl (fun w hS => K.QR.ix (of17 + k * 1) 1 rfl rfl rfl Try.underlying32 (by kernel_rfl) (by omega) (by simp)) hS29 ?_
          refine K.DW.q 9 (by kernel_rfl) rfl rfl (by kernel_rfl) rfl (fun w hS => K.QR.ld1 (v := .int .u64 (ys.getD k 0)) rfl rfl (by kernel_rfl) (hS.cell (hy.ld k (by omega) 0 _ rfl) id)) hS29 ?_
          refine K.DW.q 10 (by kernel_rfl) rfl rfl (by kernel_rfl) rfl (fun w hS => K.QR.bd [(0, .int .i64 ((k : Nat) : Int)), (1, .int .u64 (xs.getD k 0)), (2, .int .u64 (ys.getD k 0))] [.int .i64 ((k : Nat) : Int), .int .u64 (xs.getD k 0), .int .u64 (ys.getD k 0)] rfl rfl (by kernel_rfl)) hS29 ?_
          refine K.DW.l 11 rfl (by kernel_rfl) rfl (K.OW.bs rfl [(0, .agg #[.int .i64 ((k : Nat) : Int), .int .u64 (xs.getD k 0), .int .u64 (ys.getD k 0)])] [.int .i64 ((k : Nat) : Int), .int .u64 (xs.getD k 0), .int .u64 (ys.getD k 0)] rfl rfl (fun w => K.bs_run (P := Try.prog) w 42 46 1 _ _ Try.underlying42 (by kernel_rfl)) ?_)
          intro w33 r34 hr35 e36 hs37 b38
          have c39 := c30.no e36
          have z40 := c39.size
          have f41 := f32.no e36
          have ap42 : ∀ k, K.Ow r k → ¬ k = r34 := fun k hk he => absurd (f32.lt k hk) (by omega)
          have hS43 : (fun w => K.Chg K.No w0 w) w33 := c39
          refine ⟨hS43, ?_⟩
          refine K.DW.l 12 rfl (by kernel_rfl) rfl (K.OW.app (P := Try.prog) (xs := ((between xs ys k)).flatMap chgC) (z := .agg #[.int .i64 0, .int .u64 0, .int .u64 0]) (size := 3) (bytes := 24) rfl [.int .i64 ((k : Nat) : Int), .int .u64 (xs.getD k 0), .int .u64 (ys.getD k 0)] rfl rfl f41 rfl Try.underlying42 (by kernel_rfl) rfl (by decide) (by rfl) (fun j u hj => (by rw [Nat.zero_add]; exact b38.cell hj)) (K.one_cells (by rfl)) (by unfold maxLen; omega) (by omega) (by omega) ?_)
          intro a44 cap45 w46 e47 o48
          have c49 := c39.trans e47 (fun i hi hy => absurd (f41.base_le i hy) (by omega))
          have z50 := c49.size
          have o48t := K.Own.snoc (c := chgC) (L := (between xs ys k)) (⟨((k : Nat) : Int), xs.getD k 0, ys.getD k 0⟩ : Chg3) rfl o48
          have ln51 : (((between xs ys k) ++ [(⟨((k : Nat) : Int), xs.getD k 0, ys.getD k 0⟩ : Chg3)])).length = m1 + 1 := by rw [List.length_append, p8]; rfl
          have hS52 : (fun w => K.Chg K.No w0 w) w46 := c49
          refine ⟨hS52, ?_⟩
          refine K.DW.q 13 (by kernel_rfl) rfl rfl (by kernel_rfl) rfl (fun w hS => K.QR.k (v := .slice a44 (m1 + 1) cap45) (by kernel_rfl)) hS52 ?_
          refine K.DW.done (by kernel_rfl) ?_
          refine K.blk_normal ?_
          refine K.thn_normal ?_
          -- region 9 diff.go:22
          refine K.KW.region ?_
          refine K.RW.q rfl rfl (K.QR.n64 ((((k : Nat) : Int) : Int) + (1 : Int)) ((k + 1 : Nat) : Int) (by kernel_rfl) (by omega)) ?_
          refine K.RW.q rfl rfl (K.QR.k (v := .int .i64 ((k + 1 : Nat) : Int)) (by kernel_rfl)) ?_
          refine K.RW.nil ?_
          refine K.thn_normal ?_
          refine ⟨_, ?_, k + 1, a44, m1 + 1, cap45, rfl, ⟨by rfl, by rfl, by rfl, by rfl, by rfl, by rfl, by rfl, trivial⟩, (by omega), ((by first | (rw [between_eq (by assumption)]; exact ln51) | (rw [between_ne (by assumption)]; exact ln51))), (by omega), (by omega), c49, (by first | (rw [between_eq (by assumption)]; exact o48t) | (rw [between_ne (by assumption)]; exact o48t))⟩
          omega
      ·  -- no
        refine K.RW.q rfl rfl (K.QR.nice (v := .bool (decide ((((k : Nat) : Int) : Int) < (((xs.length : Nat) : Int) : Int)))) (by kernel_rfl) (congrArg Value.bool (decide_eq_false h13))) ?_
        refine K.RW.nil ?_
        refine K.thn_normal ?_
        refine K.KW.seq ?_
        refine K.KW.ifF rfl ?_
        refine K.KW.exit ?_
        refine K.thn_exit ?_
        refine K.thn_exit ?_
        refine K.blk_hit ?_
        refine K.thn_normal ?_
        refine K.KW.seq ?_
        -- region 10 diff.go:27
        refine K.KW.region ?_
        refine K.RW.q rfl rfl (K.QR.k (v := .slice r m1 c1) (by kernel_rfl)) ?_
        refine K.RW.q rfl rfl (K.QR.k (v := .slice r m1 c1) (by kernel_rfl)) ?_
        refine K.RW.q rfl rfl (K.QR.k (v := .int .i64 0) (by kernel_rfl)) ?_
        refine K.RW.nil ?_
        refine K.thn_normal ?_
        refine K.KW.ret ?_
        refine ⟨.inr rfl, (.tuple #[.slice r m1 c1, .int .i64 0]), K.res2 rfl rfl rfl, ?_⟩
        obtain rfl : k = xs.length := by omega
        rw [betweenR_0 (by omega)]
        exact ⟨_, _, _, rfl, c6, f11, p8⟩
  ·  -- no
    refine K.RW.q rfl rfl (K.QR.nice (v := .bool ((((xs.length : Nat) : Int) : Int) != (((ys.length : Nat) : Int) : Int))) (by kernel_rfl) (congrArg Value.bool (bne_iff_ne.2 h1))) ?_
    refine K.RW.nil ?_
    refine K.thn_normal ?_
    refine K.KW.ifT rfl ?_
    refine K.KW.seq ?_
    -- region 2 diff.go:19
    refine K.KW.region ?_
    refine K.RW.q rfl rfl (K.QR.k (v := .slice none 0 0) (by kernel_rfl)) ?_
    refine K.RW.q rfl rfl (K.QR.k (v := .int .i64 3) (by kernel_rfl)) ?_
    refine K.RW.nil ?_
    refine K.thn_normal ?_
    refine K.KW.ret ?_
    refine K.thn_ret ?_
    refine ⟨.inr rfl, (.tuple #[.slice none 0 0, .int .i64 3]), K.res2 rfl rfl rfl, ?_⟩
    rw [betweenR_3 (by omega)]
    exact ⟨_, _, _, rfl, (K.Chg.refl _), K.Own.nil _ _ _ _, rfl⟩

def rightAt (l : List Chg3) (i : Nat) : Prop := ¬ (l.getD i d3).at_ < 0 ∧ ¬ (l.getD i d3).old = (l.getD i d3).new ∧ ¬ (0 < i ∧ (l.getD (i - 1) d3).at_ ≥ (l.getD i d3).at_)
instance (l : List Chg3) (i : Nat) : Decidable (rightAt l i) := by unfold rightAt; infer_instance
def rightTo (l : List Chg3) (k : Nat) : Prop := ∀ i, i < k → rightAt l i
def right (l : List Chg3) : Bool := decide (∀ i, i < l.length → rightAt l i)
theorem rightTo_zero (l : List Chg3) : rightTo l 0 := fun i h => by omega
theorem rightTo_succ {l : List Chg3} {k : Nat} (h : rightTo l k) (hk : rightAt l k) : rightTo l (k + 1) := fun i hi => by
  rcases Nat.lt_or_ge i k with h' | h'
  · exact h i h'
  · rw [show i = k by omega]; exact hk
theorem right_t {l : List Chg3} {k : Nat} (h : rightTo l k) (hk : k = l.length) : Value.bool true = .bool (right l) := by
  subst hk; exact congrArg Value.bool (decide_eq_true (p := ∀ i, i < l.length → rightAt l i) h).symm
theorem right_f {l : List Chg3} {k : Nat} (hk : k < l.length) (h : ¬ rightAt l k) : Value.bool false = .bool (right l) :=
  congrArg Value.bool (decide_eq_false (fun e => h (e k hk))).symm
theorem right_spec {l : List Chg3} (h : right l = true) : rightTo l l.length := of_decide_eq_true (p := ∀ i, i < l.length → rightAt l i) h

set_option maxHeartbeats 1000000 in
set_option maxRecDepth 100000 in
theorem right_ok (a : Option Addr) (cap : Nat) (l : List Chg3) (w0 : World) (hm : l.length ≤ 9223372036854775807) (hl : RCh w0 a l) :
    K.KC Try.prog 28 #[.slice a l.length cap] w0 (fun v w' => v = .bool (right l) ∧ K.Chg K.No w0 w') := by
  refine K.KC.mk (n := 38) Try.func28 rfl rfl [.slice a l.length cap] rfl rfl ?_
  refine K.KW.seq ?_
  -- region 0 diff.go:31
  refine K.KW.region ?_
  refine K.RW.q rfl rfl (K.QR.k (v := .bool false) (by kernel_rfl)) ?_
  refine K.RW.nil ?_
  refine K.thn_normal ?_
  refine K.KW.seq ?_
  refine K.KW.seq ?_
  -- region 1 diff.go:32
  refine K.KW.region ?_
  refine K.RW.q rfl rfl (K.QR.k (v := .slice a l.length cap) (by kernel_rfl)) ?_
  refine K.RW.q rfl rfl (K.QR.len (P := Try.prog) rfl rfl Try.underlying42) ?_
  refine K.RW.q rfl rfl (K.QR.k (v := .int .i64 0) (by kernel_rfl)) ?_
  refine K.RW.nil ?_
  refine K.thn_normal ?_
  refine K.KW.block ?_
  refine K.KW.loop (fun m F w1 => ∃ (k : Nat), m = l.length - k ∧ K.Sl F [(0, .slice a l.length cap), (5, .slice a l.length cap), (6, .int .i64 ((l.length : Nat) : Int)), (7, .int .i64 ((k : Nat) : Int))] ∧ k ≤ l.length ∧ rightTo l k ∧ K.Chg K.No w0 w1) ((fun (k : Nat) => l.length - k) 0) ?_ ?_
  · -- the loop begins
    exact ⟨0, rfl, ⟨by rfl, by rfl, by rfl, by rfl, trivial⟩, (by omega), (rightTo_zero _), (K.Chg.refl _)⟩
  · -- a round
    intro m2 F3 w1 hI
    obtain ⟨k, rfl, sl4, p6, p7, c5⟩ := hI
    rw [← K.Sl.puts sl4]; clear sl4
    have z8 := c5.size
    refine K.KW.seq ?_
    -- region 2 diff.go:32
    refine K.KW.region ?_
    by_cases h9 : (((k : Nat) : Int) : Int) < (((l.length : Nat) : Int) : Int)
    ·  -- yes
      refine K.RW.q rfl rfl (K.QR.nice (v := .bool (decide ((((k : Nat) : Int) : Int) < (((l.length : Nat) : Int) : Int)))) (by kernel_rfl) (congrArg Value.bool (decide_eq_true h9))) ?_
      refine K.RW.nil ?_
      refine K.thn_normal ?_
      refine K.KW.seq ?_
      refine K.KW.ifT rfl ?_
      refine K.KW.skip ?_
      refine K.thn_normal ?_
      refine K.KW.seq ?_
      refine K.KW.block ?_
      refine K.KW.seq ?_
      -- region 3 diff.go:32
      obtain ⟨b10, of11, rfl, _⟩ := hl.at_ (by omega)
      refine K.KW.region ?_
      refine K.RW.q rfl rfl (K.QR.k (v := .int .i64 ((k : Nat) : Int)) (by kernel_rfl)) ?_
      refine K.RW.q rfl rfl (K.QR.ix (of11 + k * 3) 3 rfl rfl rfl Try.underlying42 (by kernel_rfl) (by omega) (by simp)) ?_
      refine K.RW.q rfl rfl (K.QR.ldN [.int .i64 ((l.getD k d3).at_), .int .u64 ((l.getD k d3).old), .int .u64 ((l.getD k d3).new)] rfl rfl (by kernel_rfl) (by kernel_rfl) (K.cells (K.cl (c5.cell (hl.ld k (by omega) 0 _ rfl) id) (K.cl (c5.cell (hl.ld k (by omega) 1 _ rfl) id) (K.cl (c5.cell (hl.ld k (by omega) 2 _ rfl) id) K.cl0))))) ?_
      refine K.RW.l rfl (K.OW.new (t := 46) rfl (fun r => .pointer (some ⟨r, 0, none⟩)) [.int .i64 0, .int .u64 0, .int .u64 0] (by kernel_rfl) ?_) 
      intro w12 r13 hr14 e15 hs16 b17
      have c18 := c5.no e15
      have z19 := c18.size
      refine K.RW.q rfl rfl (K.QR.k (v := .int .i64 ((k : Nat) : Int)) (by kernel_rfl)) ?_
      refine K.RW.l rfl (K.OW.st [.int .i64 ((l.getD k d3).at_), .int .u64 ((l.getD k d3).old), .int .u64 ((l.getD k d3).new)] [.int .i64 ((l.getD k d3).at_), .int .u64 ((l.getD k d3).old), .int .u64 ((l.getD k d3).new)] rfl rfl rfl (by kernel_rfl) b17 rfl (K.one_cells (by rfl)) rfl rfl ?_) 
      intro w20 e21 hs22 b23
      have c24 := c18.own e21 (by omega)
      have z25 := c24.size
      refine K.RW.nil ?_
      refine K.thn_normal ?_
      refine K.KW.seq ?_
      -- region 4 diff.go:33
      refine K.KW.drawn (fun w => K.Chg K.No w0 w ∧ K.Blk w r13 46 [.int .i64 ((l.getD k d3).at_), .int .u64 ((l.getD k d3).old), .int .u64 ((l.getD k d3).new)]) (by kernel_rfl) ?_
      intro w26 e27 hs28
      have c30 := c24.no e27
      have z31 := c30.size
      have f32 := b23.no e27
      have hS29 : (fun w => K.Chg K.No w0 w ∧ K.Blk w r13 46 [.int .i64 ((l.getD k d3).at_), .int .u64 ((l.getD k d3).old), .int .u64 ((l.getD k d3).new)]) w26 := ⟨c30, f32⟩
      refine K.DW.q 0 (by kernel_rfl) rfl rfl (by kernel_rfl) rfl (fun w hS => K.QR.k (v := .pointer (some ⟨r13, 0, none⟩)) (by kernel_rfl)) hS29 ?_
      refine K.DW.q 1 (by kernel_rfl) rfl rfl (by kernel_rfl) rfl (fun w hS => K.QR.ld1 (v := .int .i64 ((l.getD k d3).at_)) rfl rfl (by kernel_rfl) (hS.2.cell rfl)) hS29 ?_
      by_cases h33 : ((l.getD k d3).at_ : Int) < (0 : Int)
      ·  -- yes
        refine K.DW.q 2 (by kernel_rfl) rfl rfl (by kernel_rfl) rfl (fun w hS => K.QR.nice (v := .bool (decide (((l.getD k d3).at_ : Int) < (0 : Int)))) (by kernel_rfl) (congrArg Value.bool (decide_eq_true h33))) hS29 ?_
        refine K.DW.q 3 (by kernel_rfl) rfl rfl (by kernel_rfl) rfl (fun w hS => K.QR.k (v := .bool true) (by kernel_rfl)) hS29 ?_
        refine K.DW.skip 4 (by kernel_rfl) rfl rfl (by kernel_rfl) (by kernel_rfl) hS29 ?_
        refine K.DW.skip 5 (by kernel_rfl) rfl rfl (by kernel_rfl) (by kernel_rfl) hS29 ?_
        refine K.DW.skip 6 (by kernel_rfl) rfl rfl (by kernel_rfl) (by kernel_rfl) hS29 ?_
        refine K.DW.skip 7 (by kernel_rfl) rfl rfl (by kernel_rfl) (by kernel_rfl) hS29 ?_
        refine K.DW.skip 8 (by kernel_rfl) rfl rfl (by kernel_rfl) (by kernel_rfl) hS29 ?_
        refine K.DW.q 9 (by kernel_rfl) rfl rfl (by kernel_rfl) rfl (fun w hS => K.QR.k (v := .bool true) (by kernel_rfl)) hS29 ?_
        refine K.DW.q 10 (by kernel_rfl) rfl rfl (by kernel_rfl) rfl (fun w hS => K.QR.k (v := .bool true) (by kernel_rfl)) hS29 ?_
        refine K.DW.skip 11 (by kernel_rfl) rfl rfl (by kernel_rfl) (by kernel_rfl) hS29 ?_
        refine K.DW.skip 12 (by kernel_rfl) rfl rfl (by kernel_rfl) (by kernel_rfl) hS29 ?_
        refine K.DW.skip 13 (by kernel_rfl) rfl rfl (by kernel_rfl) (by kernel_rfl) hS29 ?_
        refine K.DW.skip 14 (by kernel_rfl) rfl rfl (by kernel_rfl) (by kernel_rfl) hS29 ?_
        refine K.DW.skip 15 (by kernel_rfl) rfl rfl (by kernel_rfl) (by kernel_rfl) hS29 ?_
        refine K.DW.skip 16 (by kernel_rfl) rfl rfl (by kernel_rfl) (by kernel_rfl) hS29 ?_
        refine K.DW.skip 17 (by kernel_rfl) rfl rfl (by kernel_rfl) (by kernel_rfl) hS29 ?_
        refine K.DW.skip 18 (by kernel_rfl) rfl rfl (by kernel_rfl) (by kernel_rfl) hS29 ?_
        refine K.DW.skip 19 (by kernel_rfl) rfl rfl (by kernel_rfl) (by kernel_rfl) hS29 ?_
        refine K.DW.skip 20 (by kernel_rfl) rfl rfl (by kernel_rfl) (by kernel_rfl) hS29 ?_
        refine K.DW.skip 21 (by kernel_rfl) rfl rfl (by kernel_rfl) (by kernel_rfl) hS29 ?_
        refine K.DW.skip 22 (by kernel_rfl) rfl rfl (by kernel_rfl) (by kernel_rfl) hS29 ?_
        refine K.DW.skip 23 (by kernel_rfl) rfl rfl (by kernel_rfl) (by kernel_rfl) hS29 ?_
        refine K.DW.q 24 (by kernel_rfl) rfl rfl (by kernel_rfl) rfl (fun w hS => K.QR.k (v := .bool true) (by kernel_rfl)) hS29 ?_
        refine K.DW.done (by kernel_rfl) ?_
        refine K.thn_normal ?_
        refine K.KW.ifT rfl ?_
        refine K.KW.seq ?_
        -- region 5 diff.go:34
        refine K.KW.region ?_
        refine K.RW.q rfl rfl (K.QR.k (v := .bool false) (by kernel_rfl)) ?_
        refine K.RW.nil ?_
        refine K.thn_normal ?_
        refine K.KW.ret ?_
        refine K.blk_ret ?_
        refine K.thn_ret ?_
        refine K.thn_ret ?_
        refine K.blk_ret ?_
        refine K.thn_ret ?_
        refine ⟨.inr rfl, (.bool false), K.res1 rfl rfl, ?_⟩
        exact ⟨by first | exact right_t (by assumption) (by omega) | exact right_f (k := k) (by omega) (by unfold rightAt; omega), c30⟩
      ·  -- no
        refine K.DW.q 2 (by kernel_rfl) rfl rfl (by kernel_rfl) rfl (fun w hS => K.QR.nice (v := .bool (decide (((l.getD k d3).at_ : Int) < (0 : Int)))) (by kernel_rfl) (congrArg Value.bool (decide_eq_false h33))) hS29 ?_
        refine K.DW.q 3 (by kernel_rfl) rfl rfl (by kernel_rfl) rfl (fun w hS => K.QR.k (v := .bool false) (by kernel_rfl)) hS29 ?_
        refine K.DW.q 4 (by kernel_rfl) rfl rfl (by kernel_rfl) (by kernel_rfl) (fun w hS => K.QR.k (v := .pointer (some ⟨r13, 1, none⟩)) (by kernel_rfl)) hS29 ?_
        refine K.DW.q 5 (by kernel_rfl) rfl rfl (by kernel_rfl) (by kernel_rfl) (fun w hS => K.QR.ld1 (v := .int .u64 ((l.getD k d3).old)) rfl rfl (by kernel_rfl) (hS.2.cell rfl)) hS29 ?_
        refine K.DW.q 6 (by kernel_rfl) rfl rfl (by kernel_rfl) (by kernel_rfl) (fun w hS => K.QR.k (v := .pointer (some ⟨r13, 2, none⟩)) (by kernel_rfl)) hS29 ?_
        refine K.DW.q 7 (by kernel_rfl) rfl rfl (by kernel_rfl) (by kernel_rfl) (fun w hS => K.QR.ld1 (v := .int .u64 ((l.getD k d3).new)) rfl rfl (by kernel_rfl) (hS.2.cell rfl)) hS29 ?_
        by_cases h34 : ((l.getD k d3).old : Int) = ((l.getD k d3).new : Int)
        ·  -- yes
          refine K.DW.q 8 (by kernel_rfl) rfl rfl (by kernel_rfl) (by kernel_rfl) (fun w hS => K.QR.nice (v := .bool (((l.getD k d3).old : Int) == ((l.getD k d3).new : Int))) (by kernel_rfl) (congrArg Value.bool (beq_iff_eq.2 h34))) hS29 ?_
          refine K.DW.q 9 (by kernel_rfl) rfl rfl (by kernel_rfl) rfl (fun w hS => K.QR.k (v := .bool true) (by kernel_rfl)) hS29 ?_
          refine K.DW.q 10 (by kernel_rfl) rfl rfl (by kernel_rfl) rfl (fun w hS => K.QR.k (v := .bool true) (by kernel_rfl)) hS29 ?_
          refine K.DW.skip 11 (by kernel_rfl) rfl rfl (by kernel_rfl) (by kernel_rfl) hS29 ?_
          refine K.DW.skip 12 (by kernel_rfl) rfl rfl (by kernel_rfl) (by kernel_rfl) hS29 ?_
          refine K.DW.skip 13 (by kernel_rfl) rfl rfl (by kernel_rfl) (by kernel_rfl) hS29 ?_
          refine K.DW.skip 14 (by kernel_rfl) rfl rfl (by kernel_rfl) (by kernel_rfl) hS29 ?_
          refine K.DW.skip 15 (by kernel_rfl) rfl rfl (by kernel_rfl) (by kernel_rfl) hS29 ?_
          refine K.DW.skip 16 (by kernel_rfl) rfl rfl (by kernel_rfl) (by kernel_rfl) hS29 ?_
          refine K.DW.skip 17 (by kernel_rfl) rfl rfl (by kernel_rfl) (by kernel_rfl) hS29 ?_
          refine K.DW.skip 18 (by kernel_rfl) rfl rfl (by kernel_rfl) (by kernel_rfl) hS29 ?_
          refine K.DW.skip 19 (by kernel_rfl) rfl rfl (by kernel_rfl) (by kernel_rfl) hS29 ?_
          refine K.DW.skip 20 (by kernel_rfl) rfl rfl (by kernel_rfl) (by kernel_rfl) hS29 ?_
          refine K.DW.skip 21 (by kernel_rfl) rfl rfl (by kernel_rfl) (by kernel_rfl) hS29 ?_
          refine K.DW.skip 22 (by kernel_rfl) rfl rfl (by kernel_rfl) (by kernel_rfl) hS29 ?_
          refine K.DW.skip 23 (by kernel_rfl) rfl rfl (by kernel_rfl) (by kernel_rfl) hS29 ?_
          refine K.DW.q 24 (by kernel_rfl) rfl rfl (by kernel_rfl) rfl (fun w hS => K.QR.k (v := .bool true) (by kernel_rfl)) hS29 ?_
          refine K.DW.done (by kernel_rfl) ?_
          refine K.thn_normal ?_
          refine K.KW.ifT rfl ?_
          refine K.KW.seq ?_
          -- region 5 diff.go:34
          refine K.KW.region ?_
          refine K.RW.q rfl rfl (K.QR.k (v := .bool false) (by kernel_rfl)) ?_
          refine K.RW.nil ?_
          refine K.thn_normal ?_
          refine K.KW.ret ?_
          refine K.blk_ret ?_
          refine K.thn_ret ?_
          refine K.thn_ret ?_
          refine K.blk_ret ?_
          refine K.thn_ret ?_
          refine ⟨.inr rfl, (.bool false), K.res1 rfl rfl, ?_⟩
          exact ⟨by first | exact right_t (by assumption) (by omega) | exact right_f (k := k) (by omega) (by unfold rightAt; omega), c30⟩
        ·  -- no
          refine K.DW.q 8 (by kernel_rfl) rfl rfl (by kernel_rfl) (by kernel_rfl) (fun w hS => K.QR.nice (v := .bool (((l.getD k d3).old : Int) == ((l.getD k d3).new : Int))) (by kernel_rfl) (congrArg Value.bool (beq_eq_false_iff_ne.2 h34))) hS29 ?_
          refine K.DW.q 9 (by kernel_rfl) rfl rfl (by kernel_rfl) rfl (fun w hS => K.QR.k (v := .bool false) (by kernel_rfl)) hS29 ?_
          refine K.DW.q 10 (by kernel_rfl) rfl rfl (by kernel_rfl) rfl (fun w hS => K.QR.k (v := .bool false) (by kernel_rfl)) hS29 ?_
          refine K.DW.q 11 (by kernel_rfl) rfl rfl (by kernel_rfl) (by kernel_rfl) (fun w hS => K.QR.k (v := .int .i64 ((k : Nat) : Int)) (by kernel_rfl)) hS29 ?_
          by_cases h35 : (((k : Nat) : Int) : Int) > (0 : Int)
          ·  -- yes
            refine K.DW.q 12 (by kernel_rfl) rfl rfl (by kernel_rfl) (by kernel_rfl) (fun w hS => K.QR.nice (v := .bool (decide ((((k : Nat) : Int) : Int) > (0 : Int)))) (by kernel_rfl) (congrArg Value.bool (decide_eq_true h35))) hS29 ?_
            refine K.DW.q 13 (by kernel_rfl) rfl rfl (by kernel_rfl) (by kernel_rfl) (fun w hS => K.QR.k (v := .bool true) (by kernel_rfl)) hS29 ?_
            refine K.DW.q 14 (by kernel_rfl) rfl rfl (by kernel_rfl) (by kernel_rfl) (fun w hS => K.QR.k (v := .slice (some ⟨b10, of11, none⟩) l.length cap) (by kernel_rfl)) hS29 ?_
            refine K.DW.q 15 (by kernel_rfl) rfl rfl (by kernel_rfl) (by kernel_rfl) (fun w hS => K.QR.k (v := .int .i64 ((k : Nat) : Int)) (by kernel_rfl)) hS29 ?_
            refine K.DW.q 16 (by kernel_rfl) rfl rfl (by kernel_rfl) (by kernel_rfl) (fun w hS => K.QR.n64 ((((k : Nat) : Int) : Int) - (1 : Int)) ((k - 1 : Nat) : Int) (by kernel_rfl) (by omega)) hS29 ?_
            refine K.DW.q 17 (by kernel_rfl) rfl rfl (by kernel_rfl) (by kernel_rfl) (fun w hS => K.QR.ix (of11 + (k - 1) * 3) 3 rfl rfl rfl Try.underlying42 (by kernel_rfl) (by omega) (by simp)) hS29 ?_
            refine K.DW.q 18 (by kernel_rfl) rfl rfl (by kernel_rfl) (by kernel_rfl) (fun w hS => K.QR.k (v := .pointer (some ⟨b10, of11 + (k - 1) * 3, none⟩)) (by kernel_rfl)) hS29 ?_
            refine K.DW.q 19 (by kernel_rfl) rfl rfl (by kernel_rfl) (by kernel_rfl) (fun w hS => K.QR.ld1 (v := .int .i64 ((l.getD (k - 1) d3).at_)) rfl rfl (by kernel_rfl) (hS.1.cell (hl.ld (k - 1) (by omega) 0 _ rfl) id)) hS29 ?_
            refine K.DW.q 20 (by kernel_rfl) rfl rfl (by kernel_rfl) (by kernel_rfl) (fun w hS => K.QR.k (v := .pointer (some ⟨r13, 0, none⟩)) (by kernel_rfl)) hS29 ?_
            refine K.DW.q 21 (by kernel_rfl) rfl rfl (by kernel_rfl) (by kernel_rfl) (fun w hS => K.QR.ld1 (v := .int .i64 ((l.getD k d3).at_)) rfl rfl (by kernel_rfl) (hS.2.cell rfl)) hS29 ?_
            by_cases h36 : ((l.getD (k - 1) d3).at_ : Int) ≥ ((l.getD k d3).at_ : Int)
            ·  -- yes
              refine K.DW.q 22 (by kernel_rfl) rfl rfl (by kernel_rfl) (by kernel_rfl) (fun w hS => K.QR.nice (v := .bool (decide (((l.getD (k - 1) d3).at_ : Int) ≥ ((l.getD k d3).at_ : Int)))) (by kernel_rfl) (congrArg Value.bool (decide_eq_true h36))) hS29 ?_
              refine K.DW.q 23 (by kernel_rfl) rfl rfl (by kernel_rfl) (by kernel_rfl) (fun w hS => K.QR.k (v := .bool true) (by kernel_rfl)) hS29 ?_
              refine K.DW.q 24 (by kernel_rfl) rfl rfl (by kernel_rfl) rfl (fun w hS => K.QR.k (v := .bool true) (by kernel_rfl)) hS29 ?_
              refine K.DW.done (by kernel_rfl) ?_
              refine K.thn_normal ?_
              refine K.KW.ifT rfl ?_
              refine K.KW.seq ?_
              -- region 5 diff.go:34
              refine K.KW.region ?_
              refine K.RW.q rfl rfl (K.QR.k (v := .bool false) (by kernel_rfl)) ?_
              refine K.RW.nil ?_
              refine K.thn_normal ?_
              refine K.KW.ret ?_
              refine K.blk_ret ?_
              refine K.thn_ret ?_
              refine K.thn_ret ?_
              refine K.blk_ret ?_
              refine K.thn_ret ?_
              refine ⟨.inr rfl, (.bool false), K.res1 rfl rfl, ?_⟩
              exact ⟨by first | exact right_t (by assumption) (by omega) | exact right_f (k := k) (by omega) (by unfold rightAt; omega), c30⟩
            ·  -- no
              refine K.DW.q 22 (by kernel_rfl) rfl rfl (by kernel_rfl) (by kernel_rfl) (fun w hS => K.QR.nice (v := .bool (decide (((l.getD (k - 1) d3).at_ : Int) ≥ ((l.getD k d3).at_ : Int)))) (by kernel_rfl) (congrArg Value.bool (decide_eq_false h36))) hS29 ?_
              refine K.DW.q 23 (by kernel_rfl) rfl rfl (by kernel_rfl) (by kernel_rfl) (fun w hS => K.QR.k (v := .bool false) (by kernel_rfl)) hS29 ?_
              refine K.DW.q 24 (by kernel_rfl) rfl rfl (by kernel_rfl) rfl (fun w hS => K.QR.k (v := .bool false) (by kernel_rfl)) hS29 ?_
              refine K.DW.done (by kernel_rfl) ?_
              refine K.thn_normal ?_
              refine K.KW.ifF rfl ?_
              refine K.KW.skip ?_
              refine K.blk_normal ?_
              refine K.thn_normal ?_
              -- region 6 diff.go:32
              refine K.KW.region ?_
              refine K.RW.q rfl rfl (K.QR.n64 ((((k : Nat) : Int) : Int) + (1 : Int)) ((k + 1 : Nat) : Int) (by kernel_rfl) (by omega)) ?_
              refine K.RW.q rfl rfl (K.QR.k (v := .int .i64 ((k + 1 : Nat) : Int)) (by kernel_rfl)) ?_
              refine K.RW.nil ?_
              refine K.thn_normal ?_
              refine ⟨_, ?_, k + 1, rfl, ⟨by rfl, by rfl, by rfl, by rfl, trivial⟩, (by omega), (rightTo_succ (by assumption) (by unfold rightAt; omega)), c30⟩
              omega
          ·  -- no
            refine K.DW.q 12 (by kernel_rfl) rfl rfl (by kernel_rfl) (by kernel_rfl) (fun w hS => K.QR.nice (v := .bool (decide ((((k : Nat) : Int) : Int) > (0 : Int)))) (by kernel_rfl) (congrArg Value.bool (decide_eq_false h35))) hS29 ?_
            refine K.DW.q 13 (by kernel_rfl) rfl rfl (by kernel_rfl) (by kernel_rfl) (fun w hS => K.QR.k (v := .bool false) (by kernel_rfl)) hS29 ?_
            refine K.DW.skip 14 (by kernel_rfl) rfl rfl (by kernel_rfl) (by kernel_rfl) hS29 ?_
            refine K.DW.skip 15 (by kernel_rfl) rfl rfl (by kernel_rfl) (by kernel_rfl) hS29 ?_
            refine K.DW.skip 16 (by kernel_rfl) rfl rfl (by kernel_rfl) (by kernel_rfl) hS29 ?_
            refine K.DW.skip 17 (by kernel_rfl) rfl rfl (by kernel_rfl) (by kernel_rfl) hS29 ?_
            refine K.DW.skip 18 (by kernel_rfl) rfl rfl (by kernel_rfl) (by kernel_rfl) hS29 ?_
            refine K.DW.skip 19 (by kernel_rfl) rfl rfl (by kernel_rfl) (by kernel_rfl) hS29 ?_
            refine K.DW.skip 20 (by kernel_rfl) rfl rfl (by kernel_rfl) (by kernel_rfl) hS29 ?_
            refine K.DW.skip 21 (by kernel_rfl) rfl rfl (by kernel_rfl) (by kernel_rfl) hS29 ?_
            refine K.DW.skip 22 (by kernel_rfl) rfl rfl (by kernel_rfl) (by kernel_rfl) hS29 ?_
            refine K.DW.q 23 (by kernel_rfl) rfl rfl (by kernel_rfl) (by kernel_rfl) (fun w hS => K.QR.k (v := .bool false) (by kernel_rfl)) hS29 ?_
            refine K.DW.q 24 (by kernel_rfl) rfl rfl (by kernel_rfl) rfl (fun w hS => K.QR.k (v := .bool false) (by kernel_rfl)) hS29 ?_
            refine K.DW.done (by kernel_rfl) ?_
            refine K.thn_normal ?_
            refine K.KW.ifF rfl ?_
            refine K.KW.skip ?_
            refine K.blk_normal ?_
            refine K.thn_normal ?_
            -- region 6 diff.go:32
            refine K.KW.region ?_
            refine K.RW.q rfl rfl (K.QR.n64 ((((k : Nat) : Int) : Int) + (1 : Int)) ((k + 1 : Nat) : Int) (by kernel_rfl) (by omega)) ?_
            refine K.RW.q rfl rfl (K.QR.k (v := .int .i64 ((k + 1 : Nat) : Int)) (by kernel_rfl)) ?_
            refine K.RW.nil ?_
            refine K.thn_normal ?_
            refine ⟨_, ?_, k + 1, rfl, ⟨by rfl, by rfl, by rfl, by rfl, trivial⟩, (by omega), (rightTo_succ (by assumption) (by unfold rightAt; omega)), c30⟩
            omega
    ·  -- no
      refine K.RW.q rfl rfl (K.QR.nice (v := .bool (decide ((((k : Nat) : Int) : Int) < (((l.length : Nat) : Int) : Int)))) (by kernel_rfl) (congrArg Value.bool (decide_eq_false h9))) ?_
      refine K.RW.nil ?_
      refine K.thn_normal ?_
      refine K.KW.seq ?_
      refine K.KW.ifF rfl ?_
      refine K.KW.exit ?_
      refine K.thn_exit ?_
      refine K.thn_exit ?_
      refine K.blk_hit ?_
      refine K.thn_normal ?_
      refine K.KW.seq ?_
      -- region 7 diff.go:37
      refine K.KW.region ?_
      refine K.RW.q rfl rfl (K.QR.k (v := .bool true) (by kernel_rfl)) ?_
      refine K.RW.nil ?_
      refine K.thn_normal ?_
      refine K.KW.ret ?_
      refine ⟨.inr rfl, (.bool true), K.res1 rfl rfl, ?_⟩
      exact ⟨by first | exact right_t (by assumption) (by omega) | exact right_f (k := k) (by omega) (by unfold rightAt; omega), c5⟩

def back1 (c : Chg3) : Chg3 := ⟨c.at_, c.new, c.old⟩
theorem take_snoc_d {α : Type} (d : α) {l : List α} {k : Nat} (h : k < l.length) : l.take (k + 1) = l.take k ++ [l.getD k d] := by
  rw [List.take_succ_eq_append_getElem h]; simp [h]
theorem map_take_succ {α β : Type} (f : α → β) (d : α) {l : List α} {k : Nat} (h : k < l.length) : (l.take (k + 1)).map f = (l.take k).map f ++ [f (l.getD k d)] := by
  rw [List.take_succ_eq_append_getElem h, List.map_append]; simp [h]

set_option maxHeartbeats 1000000 in
set_option maxRecDepth 100000 in
theorem back_ok (a : Option Addr) (cap : Nat) (l : List Chg3) (w0 : World) (hm : l.length * 24 ≤ 140737488351232) (hl : RCh w0 a l) :
    K.KC Try.prog 27 #[.slice a l.length cap] w0 (fun v w' => ∃ r m c, v = .slice r m c ∧ K.Chg K.No w0 w' ∧ K.Own w' w0.heap.size 46 3 r m c ((l.map back1).flatMap chgC) ∧ (l.map back1).length = m) := by
  refine K.KC.mk (n := 24) Try.func27 rfl rfl [.slice a l.length cap] rfl rfl ?_
  refine K.KW.seq ?_
  -- region 0 diff.go:59
  refine K.KW.region ?_
  refine K.RW.q rfl rfl (K.QR.k (v := .slice none 0 0) (by kernel_rfl)) ?_
  refine K.RW.nil ?_
  refine K.thn_normal ?_
  refine K.KW.seq ?_
  -- region 1 diff.go:60
  refine K.KW.region ?_
  refine K.RW.q rfl rfl (K.QR.k (v := .slice none 0 0) (by kernel_rfl)) ?_
  refine K.RW.nil ?_
  refine K.thn_normal ?_
  refine K.KW.seq ?_
  refine K.KW.seq ?_
  -- region 2 diff.go:61
  refine K.KW.region ?_
  refine K.RW.q rfl rfl (K.QR.k (v := .slice a l.length cap) (by kernel_rfl)) ?_
  refine K.RW.q rfl rfl (K.QR.len (P := Try.prog) rfl rfl Try.underlying42) ?_
  refine K.RW.q rfl rfl (K.QR.k (v := .int .i64 0) (by kernel_rfl)) ?_
  refine K.RW.nil ?_
  refine K.thn_normal ?_
  refine K.KW.block ?_
  refine K.KW.loop (fun m F w1 => ∃ (k : Nat) (r : Option Addr) (m1 : Nat) (c1 : Nat), m = l.length - k ∧ K.Sl F [(0, .slice a l.length cap), (2, .slice none 0 0), (3, .slice r m1 c1), (6, .slice a l.length cap), (7, .int .i64 ((l.length : Nat) : Int)), (8, .int .i64 ((k : Nat) : Int))] ∧ k ≤ l.length ∧ ((l.take k).map back1).length = m1 ∧ m1 = k ∧ K.Chg K.No w0 w1 ∧ K.Own w1 w0.heap.size 46 3 r m1 c1 (((l.take k).map back1).flatMap chgC)) ((fun (k : Nat) (r : Option Addr) (m1 : Nat) (c1 : Nat) => l.length - k) 0 none 0 0) ?_ ?_
  · -- the loop begins
    exact ⟨0, none, 0, 0, rfl, ⟨by rfl, by rfl, by rfl, by rfl, by rfl, by rfl, trivial⟩, (by omega), (by simp), (by omega), (K.Chg.refl _), (by simpa using K.Own.nil _ _ _ _)⟩
  · -- a round
    intro m2 F3 w1 hI
    obtain ⟨k, r, m1, c1, rfl, sl4, p6, p7, p8, c5, f9⟩ := hI
    rw [← K.Sl.puts sl4]; clear sl4
    have z10 := c5.size
    refine K.KW.seq ?_
    -- region 3 diff.go:61
    refine K.KW.region ?_
    by_cases h11 : (((k : Nat) : Int) : Int) < (((l.length : Nat) : Int) : Int)
    ·  -- yes
      refine K.RW.q rfl rfl (K.QR.nice (v := .bool (decide ((((k : Nat) : Int) : Int) < (((l.length : Nat) : Int) : Int)))) (by kernel_rfl) (congrArg Value.bool (decide_eq_true h11))) ?_
      refine K.RW.nil ?_
      refine K.thn_normal ?_
      refine K.KW.seq ?_
      refine K.KW.ifT rfl ?_
      refine K.KW.skip ?_
      refine K.thn_normal ?_
      refine K.KW.seq ?_
      refine K.KW.block ?_
      refine K.KW.seq ?_
      -- region 4 diff.go:61
      obtain ⟨b12, of13, rfl, _⟩ := hl.at_ (by omega)
      refine K.KW.region ?_
      refine K.RW.q rfl rfl (K.QR.ix (of13 + k * 3) 3 rfl rfl rfl Try.underlying42 (by kernel_rfl) (by omega) (by simp)) ?_
      refine K.RW.q rfl rfl (K.QR.ldN [.int .i64 ((l.getD k d3).at_), .int .u64 ((l.getD k d3).old), .int .u64 ((l.getD k d3).new)] rfl rfl (by kernel_rfl) (by kernel_rfl) (K.cells (K.cl (c5.cell (hl.ld k (by omega) 0 _ rfl) id) (K.cl (c5.cell (hl.ld k (by omega) 1 _ rfl) id) (K.cl (c5.cell (hl.ld k (by omega) 2 _ rfl) id) K.cl0))))) ?_
      refine K.RW.l rfl (K.OW.new (t := 46) rfl (fun r => .pointer (some ⟨r, 0, none⟩)) [.int .i64 0, .int .u64 0, .int .u64 0] (by kernel_rfl) ?_) 
      intro w14 r15 hr16 e17 hs18 b19
      have c20 := c5.no e17
      have z21 := c20.size
      have f22 := f9.no e17
      have ap23 : ∀ k, K.Ow r k → ¬ k = r15 := fun k hk he => absurd (f9.lt k hk) (by omega)
      refine K.RW.l rfl (K.OW.st [.int .i64 ((l.getD k d3).at_), .int .u64 ((l.getD k d3).old), .int .u64 ((l.getD k d3).new)] [.int .i64 ((l.getD k d3).at_), .int .u64 ((l.getD k d3).old), .int .u64 ((l.getD k d3).new)] rfl rfl rfl (by kernel_rfl) b19 rfl (K.one_cells (by rfl)) rfl rfl ?_) 
      intro w24 e25 hs26 b27
      have c28 := c20.own e25 (by omega)
      have z29 := c28.size
      have f30 := f22.chg e25 (fun k hk hy => ap23 k hk hy)
      refine K.RW.nil ?_
      refine K.thn_normal ?_
      -- region 5 diff.go:62
      refine K.KW.region ?_
      refine K.RW.q rfl rfl (K.QR.k (v := .slice r m1 c1) (by kernel_rfl)) ?_
      refine K.RW.q rfl rfl (K.QR.k (v := .pointer (some ⟨r15, 0, none⟩)) (by kernel_rfl)) ?_
      refine K.RW.q rfl rfl (K.QR.ld1 (v := .int .i64 ((l.getD k d3).at_)) rfl rfl (by kernel_rfl) (b27.cell rfl)) ?_
      refine K.RW.q rfl rfl (K.QR.k (v := .pointer (some ⟨r15, 2, none⟩)) (by kernel_rfl)) ?_
      refine K.RW.q rfl rfl (K.QR.ld1 (v := .int .u64 ((l.getD k d3).new)) rfl rfl (by kernel_rfl) (b27.cell rfl)) ?_
      refine K.RW.q rfl rfl (K.QR.k (v := .pointer (some ⟨r15, 1, none⟩)) (by kernel_rfl)) ?_
      refine K.RW.q rfl rfl (K.QR.ld1 (v := .int .u64 ((l.getD k d3).old)) rfl rfl (by kernel_rfl) (b27.cell rfl)) ?_
      refine K.RW.q rfl rfl (K.QR.bd [(0, .int .i64 ((l.getD k d3).at_)), (1, .int .u64 ((l.getD k d3).new)), (2, .int .u64 ((l.getD k d3).old))] [.int .i64 ((l.getD k d3).at_), .int .u64 ((l.getD k d3).new), .int .u64 ((l.getD k d3).old)] rfl rfl (by kernel_rfl)) ?_
      refine K.RW.l rfl (K.OW.bs rfl [(0, .agg #[.int .i64 ((l.getD k d3).at_), .int .u64 ((l.getD k d3).new), .int .u64 ((l.getD k d3).old)])] [.int .i64 ((l.getD k d3).at_), .int .u64 ((l.getD k d3).new), .int .u64 ((l.getD k d3).old)] rfl rfl (fun w => K.bs_run (P := Try.prog) w 42 46 1 _ _ Try.underlying42 (by kernel_rfl)) ?_) 
      intro w31 r32 hr33 e34 hs35 b36
      have c37 := c28.no e34
      have z38 := c37.size
      have f39 := f30.no e34
      have f40 := b27.no e34
      have ap41 : ∀ k, K.Ow r k → ¬ k = r32 := fun k hk he => absurd (f30.lt k hk) (by omega)
      refine K.RW.l rfl (K.OW.app (P := Try.prog) (xs := (((l.take k).map back1)).flatMap chgC) (z := .agg #[.int .i64 0, .int .u64 0, .int .u64 0]) (size := 3) (bytes := 24) rfl [.int .i64 ((l.getD k d3).at_), .int .u64 ((l.getD k d3).new), .int .u64 ((l.getD k d3).old)] rfl rfl f39 rfl Try.underlying42 (by kernel_rfl) rfl (by decide) (by rfl) (fun j u hj => (by rw [Nat.zero_add]; exact b36.cell hj)) (K.one_cells (by rfl)) (by unfold maxLen; omega) (by omega) (by omega) ?_) 
      intro a42 cap43 w44 e45 o46
      have c47 := c37.trans e45 (fun i hi hy => absurd (f39.base_le i hy) (by omega))
      have z48 := c47.size
      have f49 := f40.chg e45 (fun hk => ap23 _ hk rfl)
      have o46t := K.Own.snoc (c := chgC) (L := ((l.take k).map back1)) (⟨(l.getD k d3).at_, (l.getD k d3).new, (l.getD k d3).old⟩ : Chg3) rfl o46
      have ln50 : ((((l.take k).map back1) ++ [(⟨(l.getD k d3).at_, (l.getD k d3).new, (l.getD k d3).old⟩ : Chg3)])).length = m1 + 1 := by rw [List.length_append, p7]; rfl
      refine K.RW.q rfl rfl (K.QR.k (v := .slice a42 (m1 + 1) cap43) (by kernel_rfl)) ?_
      refine K.RW.nil ?_
      refine K.blk_normal ?_
      refine K.thn_normal ?_
      -- region 6 diff.go:61
      refine K.KW.region ?_
      refine K.RW.q rfl rfl (K.QR.n64 ((((k : Nat) : Int) : Int) + (1 : Int)) ((k + 1 : Nat) : Int) (by kernel_rfl) (by omega)) ?_
      refine K.RW.q rfl rfl (K.QR.k (v := .int .i64 ((k + 1 : Nat) : Int)) (by kernel_rfl)) ?_
      refine K.RW.nil ?_
      refine K.thn_normal ?_
      refine ⟨_, ?_, k + 1, a42, m1 + 1, cap43, rfl, ⟨by rfl, by rfl, by rfl, by rfl, by rfl, by rfl, trivial⟩, (by omega), ((by rw [map_take_succ back1 d3 (by omega)]; exact ln50)), (by omega), c47, (by rw [map_take_succ back1 d3 (by omega)]; exact o46t)⟩
      omega
    ·  -- no
      refine K.RW.q rfl rfl (K.QR.nice (v := .bool (decide ((((k : Nat) : Int) : Int) < (((l.length : Nat) : Int) : Int)))) (by kernel_rfl) (congrArg Value.bool (decide_eq_false h11))) ?_
      refine K.RW.nil ?_
      refine K.thn_normal ?_
      refine K.KW.seq ?_
      refine K.KW.ifF rfl ?_
      refine K.KW.exit ?_
      refine K.thn_exit ?_
      refine K.thn_exit ?_
      refine K.blk_hit ?_
      refine K.thn_normal ?_
      refine K.KW.seq ?_
      -- region 7 diff.go:64
      refine K.KW.region ?_
      refine K.RW.q rfl rfl (K.QR.k (v := .slice r m1 c1) (by kernel_rfl)) ?_
      refine K.RW.q rfl rfl (K.QR.k (v := .slice r m1 c1) (by kernel_rfl)) ?_
      refine K.RW.nil ?_
      refine K.thn_normal ?_
      refine K.KW.ret ?_
      refine ⟨.inr rfl, (.slice r m1 c1), K.res1 rfl rfl, ?_⟩
      obtain rfl : k = l.length := by omega
      rw [List.take_length] at *
      exact ⟨_, _, _, rfl, c5, f9, p7⟩

set_option maxHeartbeats 1000000 in
set_option maxRecDepth 100000 in
theorem cloneU64_ok (a : Option Addr) (cap : Nat) (xs : List Int) (w0 : World) (hm : xs.length * 8 ≤ 140737488351232) (hx : RU64 w0 a xs) :
    K.KC Try.prog 55 #[.slice a xs.length cap] w0 (fun v w' => ∃ r c, v = .slice r xs.length c ∧ K.Chg K.No w0 w' ∧ K.Own w' w0.heap.size 22 1 r xs.length c ((xs).flatMap cU64)) := by
  refine K.KC.mk (n := 8) Try.func55 rfl rfl [.slice a xs.length cap] rfl rfl ?_
  refine K.KW.seq ?_
  -- region 0 slices.go:355
  refine K.KW.region ?_
  refine K.RW.q rfl rfl (K.QR.k (v := .slice none 0 0) (by kernel_rfl)) ?_
  refine K.RW.nil ?_
  refine K.thn_normal ?_
  refine K.KW.seq ?_
  refine K.KW.seq ?_
  -- region 1 slices.go:357
  refine K.KW.region ?_
  refine K.RW.q rfl rfl (K.QR.k (v := .slice a xs.length cap) (by kernel_rfl)) ?_
  rcases Option.eq_none_or_eq_some a with rfl | ⟨p, hp⟩
  ·  -- nil
    refine K.RW.q rfl rfl (K.QR.eqNil rfl rfl rfl Try.underlying32) ?_
    refine K.RW.nil ?_
    refine K.thn_normal ?_
    refine K.KW.ifT rfl ?_
    refine K.KW.seq ?_
    -- region 2 slices.go:358
    refine K.KW.region ?_
    refine K.RW.q rfl rfl (K.QR.k (v := .slice none 0 0) (by kernel_rfl)) ?_
    refine K.RW.nil ?_
    refine K.thn_normal ?_
    refine K.KW.ret ?_
    refine K.thn_ret ?_
    refine ⟨.inr rfl, (.slice none 0 0), K.res1 rfl rfl, ?_⟩
    obtain ⟨rfl⟩ : xs = [] := by rcases hx with h | ⟨_, _, h, _⟩ <;> first | exact List.eq_nil_of_length_eq_zero h | cases h
    exact ⟨_, _, rfl, (K.Chg.refl _), K.Own.nil _ _ _ _⟩
  ·  -- not nil
    subst hp
    refine K.RW.q rfl rfl (K.QR.eqNil rfl rfl rfl Try.underlying32) ?_
    refine K.RW.nil ?_
    refine K.thn_normal ?_
    refine K.KW.ifF rfl ?_
    refine K.KW.skip ?_
    refine K.thn_normal ?_
    refine K.KW.seq ?_
    -- region 3 slices.go:362
    refine K.KW.region ?_
    refine K.RW.l rfl (K.OW.bs rfl [] [] rfl rfl (fun w => K.bs_run0 (P := Try.prog) w 32 22 0 _ _ Try.underlying32 (by kernel_rfl)) ?_) 
    intro w1 r2 hr3 e4 hs5 b6
    have c7 := e4
    have z8 := c7.size
    refine K.RW.q rfl rfl (K.QR.k (v := .slice (some p) xs.length cap) (by kernel_rfl)) ?_
    refine K.RW.l rfl (K.OW.appR (P := Try.prog) (c := cU64) (L := []) (L2 := xs) (z := .int .u64 0) (size := 1) (bytes := 8) rfl 0 rfl rfl (K.Own.of_blkL (base := w0.heap.size) (n := 0) (c := cU64) (L := []) b6 (by omega) rfl (by unfold maxLen; omega) (fun _ => rfl) rfl) rfl Try.underlying32 (by kernel_rfl) rfl (by decide) rfl (hx.no c7) (fun _ => rfl) (fun _ => K.one_cells rfl) (by unfold maxLen; omega) (by omega) (by omega) ?_) 
    intro a9 cap10 w11 e12 o13 hn14
    have c15 := c7.trans e12 (fun i hi hy => absurd ((K.Own.of_blkL (base := w0.heap.size) (n := 0) (c := cU64) (L := []) b6 (by omega) rfl (by unfold maxLen; omega) (fun _ => rfl) rfl).base_le i hy) (by omega))
    have z16 := c15.size
    have ln17 : (([] ++ xs)).length = 0 + xs.length := by simp
    refine K.RW.q rfl rfl (K.QR.k (v := .slice a9 (0 + xs.length) cap10) (by kernel_rfl)) ?_
    refine K.RW.nil ?_
    refine K.thn_normal ?_
    refine K.KW.ret ?_
    refine ⟨.inr rfl, (.slice a9 (0 + xs.length) cap10), K.res1 rfl rfl, ?_⟩
    have h0 : 0 + xs.length = xs.length := Nat.zero_add _
    exact ⟨a9, cap10, by rw [h0], c15, by rw [h0] at *; simpa using o13⟩

theorem right_ge {l : List Chg3} (h : right l = true) {k : Nat} (hk : k < l.length) : 0 ≤ (l.getD k d3).at_ := by
  have := (right_spec h) k hk; unfold rightAt at this; omega
theorem right_lt {l : List Chg3} (h : right l = true) : ∀ {j k : Nat}, k < l.length → j < k → (l.getD j d3).at_ < (l.getD k d3).at_
  | j, 0, _, hj => by omega
  | j, k + 1, hk, hj => by
    have h1 := (right_spec h) (k + 1) hk
    unfold rightAt at h1
    rw [show k + 1 - 1 = k by omega] at h1
    by_cases hjk : j = k
    · subst hjk; omega
    · have := right_lt h (j := j) (k := k) (by omega) (by omega); omega
theorem right_le_last {l : List Chg3} (h : right l = true) {k : Nat} (hk : k < l.length) : (l.getD k d3).at_ ≤ (l.getD (l.length - 1) d3).at_ := by
  by_cases hj : k = l.length - 1
  · rw [← hj]; exact Int.le_refl _
  · have := right_lt h (j := k) (k := l.length - 1) (by omega) (by omega); omega

/-- the words behind the first k changes -/
def applyTo (xs : List Int) (l : List Chg3) : Nat → Option (List Int)
  | 0 => some xs
  | k + 1 => (applyTo xs l k).bind fun ys => if ys.getD (l.getD k d3).at_.toNat 0 = (l.getD k d3).old then some (ys.set (l.getD k d3).at_.toNat (l.getD k d3).new) else none
/-- what Apply answers: the error, the words -/
def apply (xs : List Int) (l : List Chg3) : Int × List Int :=
  if right l = false then (3, []) else
  if 0 < l.length ∧ (l.getD (l.length - 1) d3).at_ ≥ xs.length then (5, []) else
  match applyTo xs l l.length with
  | none => (9, [])
  | some ys => (0, ys)
theorem apply_3 {xs : List Int} {l : List Chg3} (h : right l = false) : apply xs l = (3, []) := if_pos h
theorem apply_5 {xs : List Int} {l : List Chg3} (h : right l = true) (h2 : 0 < l.length ∧ (l.getD (l.length - 1) d3).at_ ≥ xs.length) : apply xs l = (5, []) := by
  unfold apply; rw [if_neg (by rw [h]; simp), if_pos h2]
theorem applyTo_none {xs : List Int} {l : List Chg3} {k : Nat} (h : applyTo xs l k = none) : ∀ m, applyTo xs l (k + m) = none
  | 0 => h
  | m + 1 => by show (applyTo xs l (k + m)).bind _ = none; rw [applyTo_none h m]; rfl
theorem apply_9 {xs : List Int} {l : List Chg3} {k : Nat} {ys : List Int} (h : right l = true) (h2 : ¬ (0 < l.length ∧ (l.getD (l.length - 1) d3).at_ ≥ xs.length)) (hk : k < l.length)
    (hy : applyTo xs l k = some ys) (hne : ¬ ys.getD (l.getD k d3).at_.toNat 0 = (l.getD k d3).old) : apply xs l = (9, []) := by
  have h1 : applyTo xs l (k + 1) = none := by show (applyTo xs l k).bind _ = none; rw [hy]; exact if_neg hne
  have h3 := applyTo_none h1 (l.length - (k + 1))
  rw [show k + 1 + (l.length - (k + 1)) = l.length by omega] at h3
  unfold apply; rw [if_neg (by rw [h]; simp), if_neg h2, h3]
theorem apply_0 {xs : List Int} {l : List Chg3} {ys : List Int} (h : right l = true) (h2 : ¬ (0 < l.length ∧ (l.getD (l.length - 1) d3).at_ ≥ xs.length)) (hy : applyTo xs l l.length = some ys) : apply xs l = (0, ys) := by
  unfold apply; rw [if_neg (by rw [h]; simp), if_neg h2, hy]
theorem applyTo_succ {xs : List Int} {l : List Chg3} {k : Nat} {ys : List Int} (hy : applyTo xs l k = some ys) (he : ys.getD (l.getD k d3).at_.toNat 0 = (l.getD k d3).old) :
    applyTo xs l (k + 1) = some (ys.set (l.getD k d3).at_.toNat (l.getD k d3).new) := by show (applyTo xs l k).bind _ = _; rw [hy]; exact if_pos he

set_option maxHeartbeats 1000000 in
set_option maxRecDepth 100000 in
theorem apply_ok (a b : Option Addr) (cap cap' : Nat) (xs : List Int) (l : List Chg3) (w0 : World) (hm : xs.length * 8 ≤ 140737488351232) (hm' : l.length ≤ 9223372036854775807) (hx : RU64 w0 a xs) (hl : RCh w0 b l) :
    K.KC Try.prog 26 #[.slice a xs.length cap, .slice b l.length cap'] w0 (fun v w' => ∃ r m c, v = .tuple #[.slice r m c, .int .i64 (apply xs l).1] ∧ K.Chg K.No w0 w' ∧ K.Own w' w0.heap.size 22 1 r m c (((apply xs l).2).flatMap cU64) ∧ (apply xs l).2.length = m) := by
  refine K.KC.mk (n := 53) Try.func26 rfl rfl [.slice a xs.length cap, .slice b l.length cap'] rfl rfl ?_
  refine K.KW.seq ?_
  -- region 0 diff.go:41
  refine K.KW.region ?_
  refine K.RW.q rfl rfl (K.QR.k (v := .slice none 0 0) (by kernel_rfl)) ?_
  refine K.RW.q rfl rfl (K.QR.k (v := .int .i64 0) (by kernel_rfl)) ?_
  refine K.RW.nil ?_
  refine K.thn_normal ?_
  refine K.KW.seq ?_
  refine K.KW.block ?_
  refine K.KW.seq ?_
  -- region 1 diff.go:43
  refine K.KW.region ?_
  refine K.RW.q rfl rfl (K.QR.k (v := .slice b l.length cap') (by kernel_rfl)) ?_
  refine K.RW.l rfl (K.OW.call rfl [.slice b l.length cap'] rfl rfl (by kernel_rfl) (right_ok _ _ l _ (by first | omega | (simp; omega) | simp) hl) ?_) 
  rintro v4 w2 ⟨hv3, c1⟩
  have c5 := c1
  have z6 := c5.size
  rcases Bool.eq_false_or_eq_true (right l) with hb7 | hb7
  ·  -- True
    rw [hb7] at hv3; subst hv3
    refine K.RW.q rfl rfl (K.QR.k (v := .bool false) (by kernel_rfl)) ?_
    refine K.RW.q rfl rfl (K.QR.k (v := .bool false) (by kernel_rfl)) ?_
    refine K.RW.nil ?_
    refine K.thn_normal ?_
    refine K.KW.ifF rfl ?_
    refine K.KW.seq ?_
    -- region 3 diff.go:45
    refine K.KW.region ?_
    refine K.RW.q rfl rfl (K.QR.k (v := .slice b l.length cap') (by kernel_rfl)) ?_
    refine K.RW.q rfl rfl (K.QR.len (P := Try.prog) rfl rfl Try.underlying42) ?_
    by_cases h8 : (((l.length : Nat) : Int) : Int) > (0 : Int)
    ·  -- yes
      refine K.RW.q rfl rfl (K.QR.nice (v := .bool (decide ((((l.length : Nat) : Int) : Int) > (0 : Int)))) (by kernel_rfl) (congrArg Value.bool (decide_eq_true h8))) ?_
      refine K.RW.q rfl rfl (K.QR.k (v := .bool true) (by kernel_rfl)) ?_
      refine K.RW.q rfl (by kernel_rfl) (K.QR.k (v := .slice b l.length cap') (by kernel_rfl)) ?_
      refine K.RW.q rfl (by kernel_rfl) (K.QR.k (v := .slice b l.length cap') (by kernel_rfl)) ?_
      refine K.RW.q rfl (by kernel_rfl) (K.QR.len (P := Try.prog) rfl rfl Try.underlying42) ?_
      refine K.RW.q rfl (by kernel_rfl) (K.QR.n64 ((((l.length : Nat) : Int) : Int) - (1 : Int)) ((l.length - 1 : Nat) : Int) (by kernel_rfl) (by omega)) ?_
      obtain ⟨b9, of10, rfl, _⟩ := hl.at_ (by omega)
      refine K.RW.q rfl (by kernel_rfl) (K.QR.ix (of10 + (l.length - 1) * 3) 3 rfl rfl rfl Try.underlying42 (by kernel_rfl) (by omega) (by simp)) ?_
      refine K.RW.q rfl (by kernel_rfl) (K.QR.k (v := .pointer (some ⟨b9, of10 + (l.length - 1) * 3, none⟩)) (by kernel_rfl)) ?_
      refine K.RW.q rfl (by kernel_rfl) (K.QR.ld1 (v := .int .i64 ((l.getD (l.length - 1) d3).at_)) rfl rfl (by kernel_rfl) (c5.cell (hl.ld (l.length - 1) (by omega) 0 _ rfl) id)) ?_
      refine K.RW.q rfl (by kernel_rfl) (K.QR.k (v := .slice a xs.length cap) (by kernel_rfl)) ?_
      refine K.RW.q rfl (by kernel_rfl) (K.QR.len (P := Try.prog) rfl rfl Try.underlying32) ?_
      by_cases h11 : ((l.getD (l.length - 1) d3).at_ : Int) ≥ (((xs.length : Nat) : Int) : Int)
      ·  -- yes
        refine K.RW.q rfl (by kernel_rfl) (K.QR.nice (v := .bool (decide (((l.getD (l.length - 1) d3).at_ : Int) ≥ (((xs.length : Nat) : Int) : Int)))) (by kernel_rfl) (congrArg Value.bool (decide_eq_true h11))) ?_
        refine K.RW.q rfl rfl (K.QR.k (v := .bool true) (by kernel_rfl)) ?_
        refine K.RW.q rfl rfl (K.QR.k (v := .bool true) (by kernel_rfl)) ?_
        refine K.RW.nil ?_
        refine K.thn_normal ?_
        refine K.KW.ifT rfl ?_
        refine K.KW.seq ?_
        -- region 4 diff.go:46
        refine K.KW.region ?_
        refine K.RW.q rfl rfl (K.QR.k (v := .slice none 0 0) (by kernel_rfl)) ?_
        refine K.RW.q rfl rfl (K.QR.k (v := .int .i64 5) (by kernel_rfl)) ?_
        refine K.RW.nil ?_
        refine K.thn_normal ?_
        refine K.KW.ret ?_
        refine K.blk_ret ?_
        refine K.thn_ret ?_
        refine ⟨.inr rfl, (.tuple #[.slice none 0 0, .int .i64 5]), K.res2 rfl rfl rfl, ?_⟩
        rw [apply_5 (by assumption) ⟨by omega, by omega⟩]
        exact ⟨_, _, _, rfl, c5, K.Own.nil _ _ _ _, rfl⟩
      ·  -- no
        refine K.RW.q rfl (by kernel_rfl) (K.QR.nice (v := .bool (decide (((l.getD (l.length - 1) d3).at_ : Int) ≥ (((xs.length : Nat) : Int) : Int)))) (by kernel_rfl) (congrArg Value.bool (decide_eq_false h11))) ?_
        refine K.RW.q rfl rfl (K.QR.k (v := .bool false) (by kernel_rfl)) ?_
        refine K.RW.q rfl rfl (K.QR.k (v := .bool false) (by kernel_rfl)) ?_
        refine K.RW.nil ?_
        refine K.thn_normal ?_
        refine K.KW.ifF rfl ?_
        refine K.KW.skip ?_
        refine K.blk_normal ?_
        refine K.thn_normal ?_
        refine K.KW.seq ?_
        -- region 5 diff.go:48
        refine K.KW.region ?_
        refine K.RW.q rfl rfl (K.QR.k (v := .slice a xs.length cap) (by kernel_rfl)) ?_
        refine K.RW.l rfl (K.OW.call rfl [.slice a xs.length cap] rfl rfl (by kernel_rfl) (cloneU64_ok _ _ xs _ (by omega) (hx.no c5)) ?_) 
        rintro _ w16 ⟨r12, cc13, rfl, c14, o15⟩
        have c17 := c5.no c14
        have z18 := c17.size
        have o19 := K.Own.mono (base' := w0.heap.size) o15 (by omega)
        refine K.RW.q rfl rfl (K.QR.k (v := .slice r12 xs.length cc13) (by kernel_rfl)) ?_
        refine K.RW.nil ?_
        refine K.thn_normal ?_
        refine K.KW.seq ?_
        refine K.KW.seq ?_
        -- region 6 diff.go:49
        refine K.KW.region ?_
        refine K.RW.q rfl rfl (K.QR.k (v := .slice (some ⟨b9, of10, none⟩) l.length cap') (by kernel_rfl)) ?_
        refine K.RW.q rfl rfl (K.QR.len (P := Try.prog) rfl rfl Try.underlying42) ?_
        refine K.RW.q rfl rfl (K.QR.k (v := .int .i64 0) (by kernel_rfl)) ?_
        refine K.RW.nil ?_
        refine K.thn_normal ?_
        refine K.KW.block ?_
        refine K.KW.loop (fun m F w20 => ∃ (k : Nat) (ys : List Int) (r : Option Addr) (c1 : Nat), m = l.length - k ∧ K.Sl F [(0, .slice a xs.length cap), (1, .slice (some ⟨b9, of10, none⟩) l.length cap'), (6, .slice r xs.length c1), (31, .slice (some ⟨b9, of10, none⟩) l.length cap'), (32, .int .i64 ((l.length : Nat) : Int)), (33, .int .i64 ((k : Nat) : Int))] ∧ k ≤ l.length ∧ ys.length = xs.length ∧ applyTo xs l k = some ys ∧ K.Chg K.No w0 w20 ∧ K.Own w20 w0.heap.size 22 1 r xs.length c1 ((ys).flatMap cU64)) ((fun (k : Nat) (ys : List Int) (r : Option Addr) (c1 : Nat) => l.length - k) 0 xs r12 cc13) ?_ ?_
        · -- the loop begins
          exact ⟨0, xs, r12, cc13, rfl, ⟨by rfl, by rfl, by rfl, by rfl, by rfl, by rfl, trivial⟩, (by omega), (rfl), (rfl), c17, o19⟩
        · -- a round
          intro m21 F22 w20 hI
          obtain ⟨k, ys, r, c1, rfl, sl23, p25, p26, p27, c24, f28⟩ := hI
          rw [← K.Sl.puts sl23]; clear sl23
          have z29 := c24.size
          have hk0 : k < l.length → 0 ≤ (l.getD k d3).at_ := fun h => right_ge (by assumption) h
          have hk1 : k < l.length → (l.getD k d3).at_ ≤ (l.getD (l.length - 1) d3).at_ := fun h => right_le_last (by assumption) h
          refine K.KW.seq ?_
          -- region 7 diff.go:49
          refine K.KW.region ?_
          by_cases h30 : (((k : Nat) : Int) : Int) < (((l.length : Nat) : Int) : Int)
          ·  -- yes
            refine K.RW.q rfl rfl (K.QR.nice (v := .bool (decide ((((k : Nat) : Int) : Int) < (((l.length : Nat) : Int) : Int)))) (by kernel_rfl) (congrArg Value.bool (decide_eq_true h30))) ?_
            refine K.RW.nil ?_
            refine K.thn_normal ?_
            refine K.KW.seq ?_
            refine K.KW.ifT rfl ?_
            refine K.KW.skip ?_
            refine K.thn_normal ?_
            refine K.KW.seq ?_
            refine K.KW.block ?_
            refine K.KW.seq ?_
            -- region 8 diff.go:49
            refine K.KW.region ?_
            refine K.RW.q rfl rfl (K.QR.ix (of10 + k * 3) 3 rfl rfl rfl Try.underlying42 (by kernel_rfl) (by omega) (by simp)) ?_
            refine K.RW.q rfl rfl (K.QR.ldN [.int .i64 ((l.getD k d3).at_), .int .u64 ((l.getD k d3).old), .int .u64 ((l.getD k d3).new)] rfl rfl (by kernel_rfl) (by kernel_rfl) (K.cells (K.cl (c24.cell (hl.ld k (by omega) 0 _ rfl) id) (K.cl (c24.cell (hl.ld k (by omega) 1 _ rfl) id) (K.cl (c24.cell (hl.ld k (by omega) 2 _ rfl) id) K.cl0))))) ?_
            refine K.RW.l rfl (K.OW.new (t := 46) rfl (fun r => .pointer (some ⟨r, 0, none⟩)) [.int .i64 0, .int .u64 0, .int .u64 0] (by kernel_rfl) ?_) 
            intro w31 r32 hr33 e34 hs35 b36
            have c37 := c24.no e34
            have z38 := c37.size
            have f39 := f28.no e34
            refine K.RW.l rfl (K.OW.st [.int .i64 ((l.getD k d3).at_), .int .u64 ((l.getD k d3).old), .int .u64 ((l.getD k d3).new)] [.int .i64 ((l.getD k d3).at_), .int .u64 ((l.getD k d3).old), .int .u64 ((l.getD k d3).new)] rfl rfl rfl (by kernel_rfl) b36 rfl (K.one_cells (by rfl)) rfl rfl ?_) 
            intro w40 e41 hs42 b43
            have c44 := c37.own e41 (by omega)
            have z45 := c44.size
            have f46 := f39.chg e41 (fun k hk hy => f39.ne_ty b36 (by decide) k hk hy)
            refine K.RW.nil ?_
            refine K.thn_normal ?_
            refine K.KW.seq ?_
            refine K.KW.seq ?_
            -- region 9 diff.go:50
            obtain ⟨b47, rfl, gb49, gl50⟩ := f46.some_ (by omega)
            refine K.KW.drawn (fun w => K.Chg K.No w0 w ∧ K.Own w w0.heap.size 22 1 (some ⟨b47, 0, none⟩) xs.length c1 ((ys).flatMap cU64) ∧ K.Blk w r32 46 [.int .i64 ((l.getD k d3).at_), .int .u64 ((l.getD k d3).old), .int .u64 ((l.getD k d3).new)]) (by kernel_rfl) ?_
            intro w51 e52 hs53
            have c55 := c44.no e52
            have z56 := c55.size
            have f57 := f46.no e52
            have f58 := b43.no e52
            have hS54 : (fun w => K.Chg K.No w0 w ∧ K.Own w w0.heap.size 22 1 (some ⟨b47, 0, none⟩) xs.length c1 ((ys).flatMap cU64) ∧ K.Blk w r32 46 [.int .i64 ((l.getD k d3).at_), .int .u64 ((l.getD k d3).old), .int .u64 ((l.getD k d3).new)]) w51 := ⟨c55, f57, f58⟩
            refine K.DW.q 0 (by kernel_rfl) rfl rfl (by kernel_rfl) rfl (fun w hS => K.QR.k (v := .slice (some ⟨b47, 0, none⟩) xs.length c1) (by kernel_rfl)) hS54 ?_
            refine K.DW.q 1 (by kernel_rfl) rfl rfl (by kernel_rfl) rfl (fun w hS => K.QR.k (v := .pointer (some ⟨r32, 0, none⟩)) (by kernel_rfl)) hS54 ?_
            refine K.DW.q 2 (by kernel_rfl) rfl rfl (by kernel_rfl) rfl (fun w hS => K.QR.ld1 (v := .int .i64 ((l.getD k d3).at_)) rfl rfl (by kernel_rfl) (hS.2.2.cell rfl)) hS54 ?_
            refine K.DW.q 3 (by kernel_rfl) rfl rfl (by kernel_rfl) rfl (fun w hS => K.QR.ix (0 + (((l.getD k d3).at_).toNat) * 1) 1 rfl rfl rfl Try.underlying32 (by kernel_rfl) (by omega) (by simp)) hS54 ?_
            refine K.DW.q 4 (by kernel_rfl) rfl rfl (by kernel_rfl) rfl (fun w hS => K.QR.ld1 (v := .int .u64 (ys.getD (((l.getD k d3).at_).toNat) 0)) rfl rfl (by kernel_rfl) ((K.Own.rowE 0 hS.2.1 p26 (fun _ => rfl)).ld (((l.getD k d3).at_).toNat) (by omega) 0 _ rfl)) hS54 ?_
            refine K.DW.q 5 (by kernel_rfl) rfl rfl (by kernel_rfl) rfl (fun w hS => K.QR.k (v := .pointer (some ⟨r32, 1, none⟩)) (by kernel_rfl)) hS54 ?_
            refine K.DW.q 6 (by kernel_rfl) rfl rfl (by kernel_rfl) rfl (fun w hS => K.QR.ld1 (v := .int .u64 ((l.getD k d3).old)) rfl rfl (by kernel_rfl) (hS.2.2.cell rfl)) hS54 ?_
            by_cases h59 : (ys.getD (((l.getD k d3).at_).toNat) 0 : Int) = ((l.getD k d3).old : Int)
            ·  -- yes
              refine K.DW.q 7 (by kernel_rfl) rfl rfl (by kernel_rfl) rfl (fun w hS => K.QR.nice (v := .bool ((ys.getD (((l.getD k d3).at_).toNat) 0 : Int) != ((l.getD k d3).old : Int))) (by kernel_rfl) (congrArg Value.bool (bne_eq_false_iff_eq.2 h59))) hS54 ?_
              refine K.DW.done (by kernel_rfl) ?_
              refine K.thn_normal ?_
              refine K.KW.ifF rfl ?_
              refine K.KW.skip ?_
              refine K.thn_normal ?_
              -- region 11 diff.go:53
              refine K.KW.region ?_
              refine K.RW.q rfl rfl (K.QR.k (v := .slice (some ⟨b47, 0, none⟩) xs.length c1) (by kernel_rfl)) ?_
              refine K.RW.q rfl rfl (K.QR.k (v := .pointer (some ⟨r32, 0, none⟩)) (by kernel_rfl)) ?_
              refine K.RW.q rfl rfl (K.QR.ld1 (v := .int .i64 ((l.getD k d3).at_)) rfl rfl (by kernel_rfl) (f58.cell rfl)) ?_
              refine K.RW.q rfl rfl (K.QR.k (v := .pointer (some ⟨r32, 2, none⟩)) (by kernel_rfl)) ?_
              refine K.RW.q rfl rfl (K.QR.ld1 (v := .int .u64 ((l.getD k d3).new)) rfl rfl (by kernel_rfl) (f58.cell rfl)) ?_
              refine K.RW.q rfl rfl (K.QR.ix (0 + (((l.getD k d3).at_).toNat) * 1) 1 rfl rfl rfl Try.underlying32 (by kernel_rfl) (by omega) (by simp)) ?_
              refine K.RW.l rfl (K.OW.sto (P := Try.prog) (c := cU64) (L := ys) (size := 1) 0 (((l.getD k d3).at_).toNat) 0 [.int .u64 ((l.getD k d3).new)] ((l.getD k d3).new : Int) rfl rfl rfl (by kernel_rfl) f57 p26 (by omega) (fun _ => rfl) rfl (K.one_cells (by rfl)) rfl rfl ?_) 
              intro w60 e61 hs62 o63
              have c65 := c55.own e61 (by omega)
              have z66 := c65.size
              have f67 := f58.chg e61 (fun hk => f57.ne_ty f58 (by decide) _ ⟨_, rfl, rfl⟩ hk.symm)
              have ln64 : ((ys.set (((l.getD k d3).at_).toNat) ((l.getD k d3).new : Int))).length = xs.length := by rw [List.length_set]; exact p26
              refine K.RW.nil ?_
              refine K.blk_normal ?_
              refine K.thn_normal ?_
              -- region 12 diff.go:49
              refine K.KW.region ?_
              refine K.RW.q rfl rfl (K.QR.n64 ((((k : Nat) : Int) : Int) + (1 : Int)) ((k + 1 : Nat) : Int) (by kernel_rfl) (by omega)) ?_
              refine K.RW.q rfl rfl (K.QR.k (v := .int .i64 ((k + 1 : Nat) : Int)) (by kernel_rfl)) ?_
              refine K.RW.nil ?_
              refine K.thn_normal ?_
              refine ⟨_, ?_, k + 1, (ys.set (((l.getD k d3).at_).toNat) ((l.getD k d3).new : Int)), _, c1, rfl, ⟨by rfl, by rfl, by rfl, by rfl, by rfl, by rfl, trivial⟩, (by omega), (ln64), (applyTo_succ (by assumption) (by assumption)), c65, o63⟩
              omega
            ·  -- no
              refine K.DW.q 7 (by kernel_rfl) rfl rfl (by kernel_rfl) rfl (fun w hS => K.QR.nice (v := .bool ((ys.getD (((l.getD k d3).at_).toNat) 0 : Int) != ((l.getD k d3).old : Int))) (by kernel_rfl) (congrArg Value.bool (bne_iff_ne.2 h59))) hS54 ?_
              refine K.DW.done (by kernel_rfl) ?_
              refine K.thn_normal ?_
              refine K.KW.ifT rfl ?_
              refine K.KW.seq ?_
              -- region 10 diff.go:51
              refine K.KW.region ?_
              refine K.RW.q rfl rfl (K.QR.k (v := .slice none 0 0) (by kernel_rfl)) ?_
              refine K.RW.q rfl rfl (K.QR.k (v := .int .i64 9) (by kernel_rfl)) ?_
              refine K.RW.nil ?_
              refine K.thn_normal ?_
              refine K.KW.ret ?_
              refine K.thn_ret ?_
              refine K.blk_ret ?_
              refine K.thn_ret ?_
              refine K.thn_ret ?_
              refine K.blk_ret ?_
              refine K.thn_ret ?_
              refine ⟨.inr rfl, (.tuple #[.slice none 0 0, .int .i64 9]), K.res2 rfl rfl rfl, ?_⟩
              rw [apply_9 (k := k) (by assumption) (by omega) (by omega) (by assumption) (by assumption)]
              exact ⟨_, _, _, rfl, c55, K.Own.nil _ _ _ _, rfl⟩
          ·  -- no
            refine K.RW.q rfl rfl (K.QR.nice (v := .bool (decide ((((k : Nat) : Int) : Int) < (((l.length : Nat) : Int) : Int)))) (by kernel_rfl) (congrArg Value.bool (decide_eq_false h30))) ?_
            refine K.RW.nil ?_
            refine K.thn_normal ?_
            refine K.KW.seq ?_
            refine K.KW.ifF rfl ?_
            refine K.KW.exit ?_
            refine K.thn_exit ?_
            refine K.thn_exit ?_
            refine K.blk_hit ?_
            refine K.thn_normal ?_
            refine K.KW.seq ?_
            -- region 13 diff.go:55
            refine K.KW.region ?_
            refine K.RW.q rfl rfl (K.QR.k (v := .slice r xs.length c1) (by kernel_rfl)) ?_
            refine K.RW.q rfl rfl (K.QR.k (v := .slice r xs.length c1) (by kernel_rfl)) ?_
            refine K.RW.q rfl rfl (K.QR.k (v := .int .i64 0) (by kernel_rfl)) ?_
            refine K.RW.nil ?_
            refine K.thn_normal ?_
            refine K.KW.ret ?_
            refine ⟨.inr rfl, (.tuple #[.slice r xs.length c1, .int .i64 0]), K.res2 rfl rfl rfl, ?_⟩
            obtain rfl : k = l.length := by omega
            rw [apply_0 (by assumption) (by omega) (by assumption)]
            exact ⟨_, _, _, rfl, c24, f28, by assumption⟩
    ·  -- no
      refine K.RW.q rfl rfl (K.QR.nice (v := .bool (decide ((((l.length : Nat) : Int) : Int) > (0 : Int)))) (by kernel_rfl) (congrArg Value.bool (decide_eq_false h8))) ?_
      refine K.RW.q rfl rfl (K.QR.k (v := .bool false) (by kernel_rfl)) ?_
      refine K.RW.skip rfl (by kernel_rfl) ?_
      refine K.RW.skip rfl (by kernel_rfl) ?_
      refine K.RW.skip rfl (by kernel_rfl) ?_
      refine K.RW.skip rfl (by kernel_rfl) ?_
      refine K.RW.skip rfl (by kernel_rfl) ?_
      refine K.RW.skip rfl (by kernel_rfl) ?_
      refine K.RW.skip rfl (by kernel_rfl) ?_
      refine K.RW.skip rfl (by kernel_rfl) ?_
      refine K.RW.skip rfl (by kernel_rfl) ?_
      refine K.RW.skip rfl (by kernel_rfl) ?_
      refine K.RW.q rfl rfl (K.QR.k (v := .bool false) (by kernel_rfl)) ?_
      refine K.RW.q rfl rfl (K.QR.k (v := .bool false) (by kernel_rfl)) ?_
      refine K.RW.nil ?_
      refine K.thn_normal ?_
      refine K.KW.ifF rfl ?_
      refine K.KW.skip ?_
      refine K.blk_normal ?_
      refine K.thn_normal ?_
      refine K.KW.seq ?_
      -- region 5 diff.go:48
      refine K.KW.region ?_
      refine K.RW.q rfl rfl (K.QR.k (v := .slice a xs.length cap) (by kernel_rfl)) ?_
      refine K.RW.l rfl (K.OW.call rfl [.slice a xs.length cap] rfl rfl (by kernel_rfl) (cloneU64_ok _ _ xs _ (by omega) (hx.no c5)) ?_) 
      rintro _ w72 ⟨r68, cc69, rfl, c70, o71⟩
      have c73 := c5.no c70
      have z74 := c73.size
      have o75 := K.Own.mono (base' := w0.heap.size) o71 (by omega)
      refine K.RW.q rfl rfl (K.QR.k (v := .slice r68 xs.length cc69) (by kernel_rfl)) ?_
      refine K.RW.nil ?_
      refine K.thn_normal ?_
      refine K.KW.seq ?_
      refine K.KW.seq ?_
      -- region 6 diff.go:49
      refine K.KW.region ?_
      refine K.RW.q rfl rfl (K.QR.k (v := .slice b l.length cap') (by kernel_rfl)) ?_
      refine K.RW.q rfl rfl (K.QR.len (P := Try.prog) rfl rfl Try.underlying42) ?_
      refine K.RW.q rfl rfl (K.QR.k (v := .int .i64 0) (by kernel_rfl)) ?_
      refine K.RW.nil ?_
      refine K.thn_normal ?_
      refine K.KW.block ?_
      refine K.KW.loop (fun m F w76 => ∃ (k : Nat) (ys : List Int) (r : Option Addr) (c1 : Nat), m = l.length - k ∧ K.Sl F [(0, .slice a xs.length cap), (1, .slice b l.length cap'), (6, .slice r xs.length c1), (31, .slice b l.length cap'), (32, .int .i64 ((l.length : Nat) : Int)), (33, .int .i64 ((k : Nat) : Int))] ∧ k ≤ l.length ∧ ys.length = xs.length ∧ applyTo xs l k = some ys ∧ K.Chg K.No w0 w76 ∧ K.Own w76 w0.heap.size 22 1 r xs.length c1 ((ys).flatMap cU64)) ((fun (k : Nat) (ys : List Int) (r : Option Addr) (c1 : Nat) => l.length - k) 0 xs r68 cc69) ?_ ?_
      · -- the loop begins
        exact ⟨0, xs, r68, cc69, rfl, ⟨by rfl, by rfl, by rfl, by rfl, by rfl, by rfl, trivial⟩, (by omega), (rfl), (rfl), c73, o75⟩
      · -- a round
        intro m77 F78 w76 hI
        obtain ⟨k, ys, r, c1, rfl, sl79, p81, p82, p83, c80, f84⟩ := hI
        rw [← K.Sl.puts sl79]; clear sl79
        have z85 := c80.size
        have hk0 : k < l.length → 0 ≤ (l.getD k d3).at_ := fun h => right_ge (by assumption) h
        have hk1 : k < l.length → (l.getD k d3).at_ ≤ (l.getD (l.length - 1) d3).at_ := fun h => right_le_last (by assumption) h
        refine K.KW.seq ?_
        -- region 7 diff.go:49
        refine K.KW.region ?_
        by_cases h86 : (((k : Nat) : Int) : Int) < (((l.length : Nat) : Int) : Int)
        ·  -- yes
          refine K.RW.q rfl rfl (K.QR.nice (v := .bool (decide ((((k : Nat) : Int) : Int) < (((l.length : Nat) : Int) : Int)))) (by kernel_rfl) (congrArg Value.bool (decide_eq_true h86))) ?_
          refine K.RW.nil ?_
          refine K.thn_normal ?_
          refine K.KW.seq ?_
          refine K.KW.ifT rfl ?_
          refine K.KW.skip ?_
          refine K.thn_normal ?_
          refine K.KW.seq ?_
          refine K.KW.block ?_
          refine K.KW.seq ?_
          -- region 8 diff.go:49
          obtain ⟨b87, of88, rfl, _⟩ := hl.at_ (by omega)
          refine K.KW.region ?_
          refine K.RW.q rfl rfl (K.QR.ix (of88 + k * 3) 3 rfl rfl rfl Try.underlying42 (by kernel_rfl) (by omega) (by simp)) ?_
          refine K.RW.q rfl rfl (K.QR.ldN [.int .i64 ((l.getD k d3).at_), .int .u64 ((l.getD k d3).old), .int .u64 ((l.getD k d3).new)] rfl rfl (by kernel_rfl) (by kernel_rfl) (K.cells (K.cl (c80.cell (hl.ld k (by omega) 0 _ rfl) id) (K.cl (c80.cell (hl.ld k (by omega) 1 _ rfl) id) (K.cl (c80.cell (hl.ld k (by omega) 2 _ rfl) id) K.cl0))))) ?_
          refine K.RW.l rfl (K.OW.new (t := 46) rfl (fun r => .pointer (some ⟨r, 0, none⟩)) [.int .i64 0, .int .u64 0, .int .u64 0] (by kernel_rfl) ?_) 
          intro w89 r90 hr91 e92 hs93 b94
          have c95 := c80.no e92
          have z96 := c95.size
          have f97 := f84.no e92
          refine K.RW.l rfl (K.OW.st [.int .i64 ((l.getD k d3).at_), .int .u64 ((l.getD k d3).old), .int .u64 ((l.getD k d3).new)] [.int .i64 ((l.getD k d3).at_), .int .u64 ((l.getD k d3).old), .int .u64 ((l.getD k d3).new)] rfl rfl rfl (by kernel_rfl) b94 rfl (K.one_cells (by rfl)) rfl rfl ?_) 
          intro w98 e99 hs100 b101
          have c102 := c95.own e99 (by omega)
          have z103 := c102.size
          have f104 := f97.chg e99 (fun k hk hy => f97.ne_ty b94 (by decide) k hk hy)
          refine K.RW.nil ?_
          refine K.thn_normal ?_
          refine K.KW.seq ?_
          refine K.KW.seq ?_
          -- region 9 diff.go:50
          obtain ⟨b105, rfl, gb107, gl108⟩ := f104.some_ (by omega)
          refine K.KW.drawn (fun w => K.Chg K.No w0 w ∧ K.Own w w0.heap.size 22 1 (some ⟨b105, 0, none⟩) xs.length c1 ((ys).flatMap cU64) ∧ K.Blk w r90 46 [.int .i64 ((l.getD k d3).at_), .int .u64 ((l.getD k d3).old), .int .u64 ((l.getD k d3).new)]) (by kernel_rfl) ?_
          intro w109 e110 hs111
          have c113 := c102.no e110
          have z114 := c113.size
          have f115 := f104.no e110
          have f116 := b101.no e110
          have hS112 : (fun w => K.Chg K.No w0 w ∧ K.Own w w0.heap.size 22 1 (some ⟨b105, 0, none⟩) xs.length c1 ((ys).flatMap cU64) ∧ K.Blk w r90 46 [.int .i64 ((l.getD k d3).at_), .int .u64 ((l.getD k d3).old), .int .u64 ((l.getD k d3).new)]) w109 := ⟨c113, f115, f116⟩
          refine K.DW.q 0 (by kernel_rfl) rfl rfl (by kernel_rfl) rfl (fun w hS => K.QR.k (v := .slice (some ⟨b105, 0, none⟩) xs.length c1) (by kernel_rfl)) hS112 ?_
          refine K.DW.q 1 (by kernel_rfl) rfl rfl (by kernel_rfl) rfl (fun w hS => K.QR.k (v := .pointer (some ⟨r90, 0, none⟩)) (by kernel_rfl)) hS112 ?_
          refine K.DW.q 2 (by kernel_rfl) rfl rfl (by kernel_rfl) rfl (fun w hS => K.QR.ld1 (v := .int .i64 ((l.getD k d3).at_)) rfl rfl (by kernel_rfl) (hS.2.2.cell rfl)) hS112 ?_
          refine K.DW.q 3 (by kernel_rfl) rfl rfl (by kernel_rfl) rfl (fun w hS => K.QR.ix (0 + (((l.getD k d3).at_).toNat) * 1) 1 rfl rfl rfl Try.underlying32 (by kernel_rfl) (by omega) (by simp)) hS112 ?_
          refine K.DW.q 4 (by kernel_rfl) rfl rfl (by kernel_rfl) rfl (fun w hS => K.QR.ld1 (v := .int .u64 (ys.getD (((l.getD k d3).at_).toNat) 0)) rfl rfl (by kernel_rfl) ((K.Own.rowE 0 hS.2.1 p82 (fun _ => rfl)).ld (((l.getD k d3).at_).toNat) (by omega) 0 _ rfl)) hS112 ?_
          refine K.DW.q 5 (by kernel_rfl) rfl rfl (by kernel_rfl) rfl (fun w hS => K.QR.k (v := .pointer (some ⟨r90, 1, none⟩)) (by kernel_rfl)) hS112 ?_
          refine K.DW.q 6 (by kernel_rfl) rfl rfl (by kernel_rfl) rfl (fun w hS => K.QR.ld1 (v := .int .u64 ((l.getD k d3).old)) rfl rfl (by kernel_rfl) (hS.2.2.cell rfl)) hS112 ?_
          by_cases h117 : (ys.getD (((l.getD k d3).at_).toNat) 0 : Int) = ((l.getD k d3).old : Int)
          ·  -- yes
            refine K.DW.q 7 (by kernel_rfl) rfl rfl (by kernel_rfl) rfl (fun w hS => K.QR.nice (v := .bool ((ys.getD (((l.getD k d3).at_).toNat) 0 : Int) != ((l.getD k d3).old : Int))) (by kernel_rfl) (congrArg Value.bool (bne_eq_false_iff_eq.2 h117))) hS112 ?_
            refine K.DW.done (by kernel_rfl) ?_
            refine K.thn_normal ?_
            refine K.KW.ifF rfl ?_
            refine K.KW.skip ?_
            refine K.thn_normal ?_
            -- region 11 diff.go:53
            refine K.KW.region ?_
            refine K.RW.q rfl rfl (K.QR.k (v := .slice (some ⟨b105, 0, none⟩) xs.length c1) (by kernel_rfl)) ?_
            refine K.RW.q rfl rfl (K.QR.k (v := .pointer (some ⟨r90, 0, none⟩)) (by kernel_rfl)) ?_
            refine K.RW.q rfl rfl (K.QR.ld1 (v := .int .i64 ((l.getD k d3).at_)) rfl rfl (by kernel_rfl) (f116.cell rfl)) ?_
            refine K.RW.q rfl rfl (K.QR.k (v := .pointer (some ⟨r90, 2, none⟩)) (by kernel_rfl)) ?_
            refine K.RW.q rfl rfl (K.QR.ld1 (v := .int .u64 ((l.getD k d3).new)) rfl rfl (by kernel_rfl) (f116.cell rfl)) ?_
            refine K.RW.q rfl rfl (K.QR.ix (0 + (((l.getD k d3).at_).toNat) * 1) 1 rfl rfl rfl Try.underlying32 (by kernel_rfl) (by omega) (by simp)) ?_
            refine K.RW.l rfl (K.OW.sto (P := Try.prog) (c := cU64) (L := ys) (size := 1) 0 (((l.getD k d3).at_).toNat) 0 [.int .u64 ((l.getD k d3).new)] ((l.getD k d3).new : Int) rfl rfl rfl (by kernel_rfl) f115 p82 (by omega) (fun _ => rfl) rfl (K.one_cells (by rfl)) rfl rfl ?_) 
            intro w118 e119 hs120 o121
            have c123 := c113.own e119 (by omega)
            have z124 := c123.size
            have f125 := f116.chg e119 (fun hk => f115.ne_ty f116 (by decide) _ ⟨_, rfl, rfl⟩ hk.symm)
            have ln122 : ((ys.set (((l.getD k d3).at_).toNat) ((l.getD k d3).new : Int))).length = xs.length := by rw [List.length_set]; exact p82
            refine K.RW.nil ?_
            refine K.blk_normal ?_
            refine K.thn_normal ?_
            -- region 12 diff.go:49
            refine K.KW.region ?_
            refine K.RW.q rfl rfl (K.QR.n64 ((((k : Nat) : Int) : Int) + (1 : Int)) ((k + 1 : Nat) : Int) (by kernel_rfl) (by omega)) ?_
            refine K.RW.q rfl rfl (K.QR.k (v := .int .i64 ((k + 1 : Nat) : Int)) (by kernel_rfl)) ?_
            refine K.RW.nil ?_
            refine K.thn_normal ?_
            refine ⟨_, ?_, k + 1, (ys.set (((l.getD k d3).at_).toNat) ((l.getD k d3).new : Int)), _, c1, rfl, ⟨by rfl, by rfl, by rfl, by rfl, by rfl, by rfl, trivial⟩, (by omega), (ln122), (applyTo_succ (by assumption) (by assumption)), c123, o121⟩
            omega
          ·  -- no
            refine K.DW.q 7 (by kernel_rfl) rfl rfl (by kernel_rfl) rfl (fun w hS => K.QR.nice (v := .bool ((ys.getD (((l.getD k d3).at_).toNat) 0 : Int) != ((l.getD k d3).old : Int))) (by kernel_rfl) (congrArg Value.bool (bne_iff_ne.2 h117))) hS112 ?_
            refine K.DW.done (by kernel_rfl) ?_
            refine K.thn_normal ?_
            refine K.KW.ifT rfl ?_
            refine K.KW.seq ?_
            -- region 10 diff.go:51
            refine K.KW.region ?_
            refine K.RW.q rfl rfl (K.QR.k (v := .slice none 0 0) (by kernel_rfl)) ?_
            refine K.RW.q rfl rfl (K.QR.k (v := .int .i64 9) (by kernel_rfl)) ?_
            refine K.RW.nil ?_
            refine K.thn_normal ?_
            refine K.KW.ret ?_
            refine K.thn_ret ?_
            refine K.blk_ret ?_
            refine K.thn_ret ?_
            refine K.thn_ret ?_
            refine K.blk_ret ?_
            refine K.thn_ret ?_
            refine ⟨.inr rfl, (.tuple #[.slice none 0 0, .int .i64 9]), K.res2 rfl rfl rfl, ?_⟩
            rw [apply_9 (k := k) (by assumption) (by omega) (by omega) (by assumption) (by assumption)]
            exact ⟨_, _, _, rfl, c113, K.Own.nil _ _ _ _, rfl⟩
        ·  -- no
          refine K.RW.q rfl rfl (K.QR.nice (v := .bool (decide ((((k : Nat) : Int) : Int) < (((l.length : Nat) : Int) : Int)))) (by kernel_rfl) (congrArg Value.bool (decide_eq_false h86))) ?_
          refine K.RW.nil ?_
          refine K.thn_normal ?_
          refine K.KW.seq ?_
          refine K.KW.ifF rfl ?_
          refine K.KW.exit ?_
          refine K.thn_exit ?_
          refine K.thn_exit ?_
          refine K.blk_hit ?_
          refine K.thn_normal ?_
          refine K.KW.seq ?_
          -- region 13 diff.go:55
          refine K.KW.region ?_
          refine K.RW.q rfl rfl (K.QR.k (v := .slice r xs.length c1) (by kernel_rfl)) ?_
          refine K.RW.q rfl rfl (K.QR.k (v := .slice r xs.length c1) (by kernel_rfl)) ?_
          refine K.RW.q rfl rfl (K.QR.k (v := .int .i64 0) (by kernel_rfl)) ?_
          refine K.RW.nil ?_
          refine K.thn_normal ?_
          refine K.KW.ret ?_
          refine ⟨.inr rfl, (.tuple #[.slice r xs.length c1, .int .i64 0]), K.res2 rfl rfl rfl, ?_⟩
          obtain rfl : k = l.length := by omega
          rw [apply_0 (by assumption) (by omega) (by assumption)]
          exact ⟨_, _, _, rfl, c80, f84, by assumption⟩
  ·  -- False
    rw [hb7] at hv3; subst hv3
    refine K.RW.q rfl rfl (K.QR.k (v := .bool true) (by kernel_rfl)) ?_
    refine K.RW.q rfl rfl (K.QR.k (v := .bool true) (by kernel_rfl)) ?_
    refine K.RW.nil ?_
    refine K.thn_normal ?_
    refine K.KW.ifT rfl ?_
    refine K.KW.seq ?_
    -- region 2 diff.go:44
    refine K.KW.region ?_
    refine K.RW.q rfl rfl (K.QR.k (v := .slice none 0 0) (by kernel_rfl)) ?_
    refine K.RW.q rfl rfl (K.QR.k (v := .int .i64 3) (by kernel_rfl)) ?_
    refine K.RW.nil ?_
    refine K.thn_normal ?_
    refine K.KW.ret ?_
    refine K.blk_ret ?_
    refine K.thn_ret ?_
    refine ⟨.inr rfl, (.tuple #[.slice none 0 0, .int .i64 3]), K.res2 rfl rfl rfl, ?_⟩
    rw [apply_3 (by assumption)]
    exact ⟨_, _, _, rfl, c5, K.Own.nil _ _ _ _, rfl⟩

set_option maxHeartbeats 1000000 in
set_option maxRecDepth 100000 in
theorem awake34_ok (w0 : World) :
    K.KC Try.prog 24 #[] w0 (fun v w' => v = .bool true ∧ K.Chg K.No w0 w') := by
  refine K.KC.mk (n := 46) Try.func24 rfl rfl [] rfl rfl ?_
  refine K.KW.seq ?_
  -- region 0 law.go:12
  refine K.KW.region ?_
  refine K.RW.q rfl rfl (K.QR.k (v := .bool false) (by kernel_rfl)) ?_
  refine K.RW.nil ?_
  refine K.thn_normal ?_
  refine K.KW.seq ?_
  -- region 1 law.go:13
  refine K.KW.region ?_
  refine K.RW.l rfl (K.OW.bs rfl [(0, .int .u64 1), (1, .int .u64 2)] [.int .u64 1, .int .u64 2] rfl rfl (fun w => K.bs_run (P := Try.prog) w 32 22 2 _ _ Try.underlying32 (by kernel_rfl)) ?_) 
  intro w1 r2 hr3 e4 hs5 b6
  have c7 := e4
  have z8 := c7.size
  refine K.RW.l rfl (K.OW.bs rfl [(0, .int .u64 1), (1, .int .u64 5)] [.int .u64 1, .int .u64 5] rfl rfl (fun w => K.bs_run (P := Try.prog) w 32 22 2 _ _ Try.underlying32 (by kernel_rfl)) ?_) 
  intro w9 r10 hr11 e12 hs13 b14
  have c15 := c7.no e12
  have z16 := c15.size
  have f17 := b6.no e12
  refine K.RW.l rfl (K.OW.call rfl [.slice (some ⟨r2, 0, none⟩) 2 2, .slice (some ⟨r10, 0, none⟩) 2 2] rfl rfl (by kernel_rfl) (between_ok _ _ _ _ [(1 : Int), (2 : Int)] [(1 : Int), (5 : Int)] _ (by first | omega | (simp; omega) | (simp; done)) (by first | omega | (simp; omega) | (simp; done)) (K.Blk.rowE (c := cU64) 0 (L := [(1 : Int), (2 : Int)]) f17 (fun _ => rfl) rfl) (K.Blk.rowE (c := cU64) 0 (L := [(1 : Int), (5 : Int)]) b14 (fun _ => rfl) rfl)) ?_) 
  rintro v26 w24 ⟨r18, m19, cc20, hv25, c21, o22, l23⟩
  have e27 : (betweenR [(1 : Int), (2 : Int)] [(1 : Int), (5 : Int)]) = ((0 : Int), [(⟨1, 2, 5⟩ : Chg3)]) := by decide
  simp only [e27] at hv25 o22 l23
  obtain rfl : 1 = m19 := l23
  subst hv25
  have c28 := c15.no c21
  have z29 := c28.size
  have f30 := f17.no c21
  have f31 := b14.no c21
  have o32 := K.Own.mono (base' := w0.heap.size) o22 (by omega)
  refine K.RW.q rfl rfl (K.QR.k (v := .tuple #[.slice r18 1 cc20, .int .i64 0]) (by kernel_rfl)) ?_
  refine K.RW.q rfl rfl (K.QR.k (v := .slice r18 1 cc20) (by kernel_rfl)) ?_
  refine K.RW.q rfl rfl (K.QR.k (v := .int .i64 0) (by kernel_rfl)) ?_
  refine K.RW.q rfl rfl (K.QR.k (v := .slice r18 1 cc20) (by kernel_rfl)) ?_
  refine K.RW.q rfl rfl (K.QR.k (v := .int .i64 0) (by kernel_rfl)) ?_
  refine K.RW.nil ?_
  refine K.thn_normal ?_
  refine K.KW.seq ?_
  -- region 2 law.go:14
  refine K.KW.region ?_
  refine K.RW.l rfl (K.OW.bs rfl [(0, .int .u64 1), (1, .int .u64 2)] [.int .u64 1, .int .u64 2] rfl rfl (fun w => K.bs_run (P := Try.prog) w 32 22 2 _ _ Try.underlying32 (by kernel_rfl)) ?_) 
  intro w33 r34 hr35 e36 hs37 b38
  have c39 := c28.no e36
  have z40 := c39.size
  have f41 := f30.no e36
  have f42 := f31.no e36
  have f43 := o32.no e36
  refine K.RW.q rfl rfl (K.QR.k (v := .slice r18 1 cc20) (by kernel_rfl)) ?_
  refine K.RW.l rfl (K.OW.call rfl [.slice (some ⟨r34, 0, none⟩) 2 2, .slice r18 1 cc20] rfl rfl (by kernel_rfl) (apply_ok _ _ _ _ [(1 : Int), (2 : Int)] [(⟨1, 2, 5⟩ : Chg3)] _ (by first | omega | (simp; omega) | (simp; done)) (by first | omega | (simp; omega) | (simp; done)) (K.Blk.rowE (c := cU64) 0 (L := [(1 : Int), (2 : Int)]) b38 (fun _ => rfl) rfl) (K.Own.rowE d3 f43 rfl (fun _ => rfl))) ?_) 
  rintro v52 w50 ⟨r44, m45, cc46, hv51, c47, o48, l49⟩
  have e53 : (apply [(1 : Int), (2 : Int)] [(⟨1, 2, 5⟩ : Chg3)]) = ((0 : Int), [(1 : Int), (5 : Int)]) := by decide
  simp only [e53] at hv51 o48 l49
  obtain rfl : 2 = m45 := l49
  subst hv51
  have c54 := c39.no c47
  have z55 := c54.size
  have f56 := f41.no c47
  have f57 := f42.no c47
  have f58 := f43.no c47
  have f59 := b38.no c47
  have o60 := K.Own.mono (base' := w0.heap.size) o48 (by omega)
  refine K.RW.q rfl rfl (K.QR.k (v := .tuple #[.slice r44 2 cc46, .int .i64 0]) (by kernel_rfl)) ?_
  refine K.RW.q rfl rfl (K.QR.k (v := .slice r44 2 cc46) (by kernel_rfl)) ?_
  refine K.RW.q rfl rfl (K.QR.k (v := .int .i64 0) (by kernel_rfl)) ?_
  refine K.RW.q rfl rfl (K.QR.k (v := .slice r44 2 cc46) (by kernel_rfl)) ?_
  refine K.RW.q rfl rfl (K.QR.k (v := .int .i64 0) (by kernel_rfl)) ?_
  refine K.RW.nil ?_
  refine K.thn_normal ?_
  refine K.KW.seq ?_
  -- region 3 law.go:15
  refine K.KW.region ?_
  refine K.RW.q rfl rfl (K.QR.k (v := .int .i64 0) (by kernel_rfl)) ?_
  refine K.RW.q rfl rfl (K.QR.k (v := .bool true) (by kernel_rfl)) ?_
  refine K.RW.q rfl rfl (K.QR.k (v := .bool true) (by kernel_rfl)) ?_
  refine K.RW.q rfl (by kernel_rfl) (K.QR.k (v := .slice r18 1 cc20) (by kernel_rfl)) ?_
  refine K.RW.q rfl (by kernel_rfl) (K.QR.len (P := Try.prog) rfl rfl Try.underlying42) ?_
  refine K.RW.q rfl (by kernel_rfl) (K.QR.k (v := .bool true) (by kernel_rfl)) ?_
  refine K.RW.q rfl rfl (K.QR.k (v := .bool true) (by kernel_rfl)) ?_
  refine K.RW.q rfl rfl (K.QR.k (v := .bool true) (by kernel_rfl)) ?_
  refine K.RW.q rfl (by kernel_rfl) (K.QR.k (v := .slice r18 1 cc20) (by kernel_rfl)) ?_
  obtain ⟨b61, rfl, gb63, gl64⟩ := f58.some_ (by omega)
  refine K.RW.q rfl (by kernel_rfl) (K.QR.ix (0 + 0 * 3) 3 rfl rfl rfl Try.underlying42 (by kernel_rfl) (by omega) (by simp)) ?_
  refine K.RW.q rfl (by kernel_rfl) (K.QR.ldN [.int .i64 (([(⟨1, 2, 5⟩ : Chg3)].getD 0 d3).at_), .int .u64 (([(⟨1, 2, 5⟩ : Chg3)].getD 0 d3).old), .int .u64 (([(⟨1, 2, 5⟩ : Chg3)].getD 0 d3).new)] rfl rfl (by kernel_rfl) (by kernel_rfl) (K.cells (K.cl ((K.Own.rowE d3 f58 rfl (fun _ => rfl)).ld 0 (by omega) 0 _ rfl) (K.cl ((K.Own.rowE d3 f58 rfl (fun _ => rfl)).ld 0 (by omega) 1 _ rfl) (K.cl ((K.Own.rowE d3 f58 rfl (fun _ => rfl)).ld 0 (by omega) 2 _ rfl) K.cl0))))) ?_
  refine K.RW.q rfl (by kernel_rfl) (K.QR.bd [(0, .int .i64 1), (1, .int .u64 2), (2, .int .u64 5)] [.int .i64 1, .int .u64 2, .int .u64 5] rfl rfl (by kernel_rfl)) ?_
  refine K.RW.q rfl (by kernel_rfl) (K.QR.eqS (by kernel_rfl) rfl rfl rfl (eqC_t (by decide))) ?_
  refine K.RW.q rfl rfl (K.QR.k (v := .bool true) (by kernel_rfl)) ?_
  refine K.RW.q rfl rfl (K.QR.k (v := .bool true) (by kernel_rfl)) ?_
  refine K.RW.q rfl (by kernel_rfl) (K.QR.k (v := .int .i64 0) (by kernel_rfl)) ?_
  refine K.RW.q rfl (by kernel_rfl) (K.QR.k (v := .bool true) (by kernel_rfl)) ?_
  refine K.RW.q rfl rfl (K.QR.k (v := .bool true) (by kernel_rfl)) ?_
  refine K.RW.q rfl rfl (K.QR.k (v := .bool true) (by kernel_rfl)) ?_
  refine K.RW.q rfl (by kernel_rfl) (K.QR.k (v := .slice r44 2 cc46) (by kernel_rfl)) ?_
  refine K.RW.q rfl (by kernel_rfl) (K.QR.len (P := Try.prog) rfl rfl Try.underlying32) ?_
  refine K.RW.q rfl (by kernel_rfl) (K.QR.k (v := .bool true) (by kernel_rfl)) ?_
  refine K.RW.q rfl rfl (K.QR.k (v := .bool true) (by kernel_rfl)) ?_
  refine K.RW.q rfl rfl (K.QR.k (v := .bool true) (by kernel_rfl)) ?_
  refine K.RW.q rfl (by kernel_rfl) (K.QR.k (v := .slice r44 2 cc46) (by kernel_rfl)) ?_
  obtain ⟨b65, rfl, gb67, gl68⟩ := o60.some_ (by omega)
  refine K.RW.q rfl (by kernel_rfl) (K.QR.ix (0 + 1 * 1) 1 rfl rfl rfl Try.underlying32 (by kernel_rfl) (by omega) (by simp)) ?_
  refine K.RW.q rfl (by kernel_rfl) (K.QR.ld1 (v := .int .u64 ([(1 : Int), (5 : Int)].getD 1 0)) rfl rfl (by kernel_rfl) ((K.Own.rowE 0 o60 rfl (fun _ => rfl)).ld 1 (by omega) 0 _ rfl)) ?_
  refine K.RW.q rfl (by kernel_rfl) (K.QR.nice (v := .bool (([(1 : Int), (5 : Int)].getD 1 0 : Int) == (5 : Int))) (by kernel_rfl) (congrArg Value.bool (beq_iff_eq.2 (by decide)))) ?_
  refine K.RW.q rfl rfl (K.QR.k (v := .bool true) (by kernel_rfl)) ?_
  refine K.RW.q rfl rfl (K.QR.k (v := .bool true) (by kernel_rfl)) ?_
  refine K.RW.nil ?_
  refine K.thn_normal ?_
  refine K.KW.ret ?_
  refine ⟨.inr rfl, (.bool true), K.res1 rfl rfl, ?_⟩
  exact ⟨rfl, c54⟩

end Go.Proofs.Ytcmlompigmhddaa
