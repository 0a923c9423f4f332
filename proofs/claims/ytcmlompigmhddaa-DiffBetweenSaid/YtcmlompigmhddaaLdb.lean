/- DiffBetween: the patch between two images makes one of the other, and back; it has just the words that differ. -/
import Derived.Test.YtcmlompigmhddaaFdlaw
namespace Go.Proofs.Ytcmlompigmhddaa
open Go.RowKit
set_option linter.unusedVariables false
attribute [local irreducible] K.KW K.RW K.DW K.OW K.QR K.KC

set_option maxHeartbeats 1000000 in
set_option maxRecDepth 100000 in
theorem lawdb_ok (a a' : Option Addr) (cap cap' : Nat) (xs ys : List Int) (w0 : World) (hm0 : xs.length ≤ 9223372036854775807) (hm1 : ys.length ≤ 9223372036854775807) (hx : RU64 w0 a xs) (hy : RU64 w0 a' ys) :
    K.KC Try.prog 5 #[.slice a xs.length cap, .slice a' ys.length cap'] w0 (fun v w' => v = .bool true ∧ K.Chg K.No w0 w') := by
  refine K.KC.mk (n := 127) Try.func5 rfl rfl [.slice a xs.length cap, .slice a' ys.length cap'] rfl rfl ?_
  refine K.KW.seq ?_
  -- region 0 law.go:41
  refine K.KW.region ?_
  refine K.RW.q rfl rfl (K.QR.k (v := .bool false) (by kernel_rfl)) ?_
  refine K.RW.nil ?_
  refine K.thn_normal ?_
  refine K.KW.seq ?_
  refine K.KW.seq ?_
  -- region 1 law.go:42
  refine K.KW.region ?_
  refine K.RW.q rfl rfl (K.QR.k (v := .slice a xs.length cap) (by kernel_rfl)) ?_
  refine K.RW.q rfl rfl (K.QR.len (P := Try.prog) rfl rfl Try.underlying32) ?_
  by_cases h1 : (((xs.length : Nat) : Int) : Int) > (300 : Int)
  ·  -- yes
    refine K.RW.q rfl rfl (K.QR.nice (v := .bool (decide ((((xs.length : Nat) : Int) : Int) > (300 : Int)))) (by kernel_rfl) (congrArg Value.bool (decide_eq_true h1))) ?_
    refine K.RW.q rfl rfl (K.QR.k (v := .bool true) (by kernel_rfl)) ?_
    refine K.RW.skip rfl (by kernel_rfl) ?_
    refine K.RW.skip rfl (by kernel_rfl) ?_
    refine K.RW.skip rfl (by kernel_rfl) ?_
    refine K.RW.q rfl rfl (K.QR.k (v := .bool true) (by kernel_rfl)) ?_
    refine K.RW.nil ?_
    refine K.thn_normal ?_
    refine K.KW.ifT rfl ?_
    refine K.KW.seq ?_
    -- region 2 law.go:43
    refine K.KW.region ?_
    refine K.RW.l rfl (K.OW.call rfl [] rfl rfl (by kernel_rfl) (awake34_ok _) ?_) 
    rintro _ w3 ⟨rfl, c2⟩
    have c4 := c2
    have z5 := c4.size
    refine K.RW.q rfl rfl (K.QR.k (v := .bool true) (by kernel_rfl)) ?_
    refine K.RW.nil ?_
    refine K.thn_normal ?_
    refine K.KW.ret ?_
    refine K.thn_ret ?_
    refine ⟨.inr rfl, (.bool true), K.res1 rfl rfl, ?_⟩
    exact ⟨rfl, c4⟩
  ·  -- no
    refine K.RW.q rfl rfl (K.QR.nice (v := .bool (decide ((((xs.length : Nat) : Int) : Int) > (300 : Int)))) (by kernel_rfl) (congrArg Value.bool (decide_eq_false h1))) ?_
    refine K.RW.q rfl rfl (K.QR.k (v := .bool false) (by kernel_rfl)) ?_
    refine K.RW.q rfl (by kernel_rfl) (K.QR.k (v := .slice a' ys.length cap') (by kernel_rfl)) ?_
    refine K.RW.q rfl (by kernel_rfl) (K.QR.len (P := Try.prog) rfl rfl Try.underlying32) ?_
    by_cases h6 : (((ys.length : Nat) : Int) : Int) > (300 : Int)
    ·  -- yes
      refine K.RW.q rfl (by kernel_rfl) (K.QR.nice (v := .bool (decide ((((ys.length : Nat) : Int) : Int) > (300 : Int)))) (by kernel_rfl) (congrArg Value.bool (decide_eq_true h6))) ?_
      refine K.RW.q rfl rfl (K.QR.k (v := .bool true) (by kernel_rfl)) ?_
      refine K.RW.nil ?_
      refine K.thn_normal ?_
      refine K.KW.ifT rfl ?_
      refine K.KW.seq ?_
      -- region 2 law.go:43
      refine K.KW.region ?_
      refine K.RW.l rfl (K.OW.call rfl [] rfl rfl (by kernel_rfl) (awake34_ok _) ?_) 
      rintro _ w8 ⟨rfl, c7⟩
      have c9 := c7
      have z10 := c9.size
      refine K.RW.q rfl rfl (K.QR.k (v := .bool true) (by kernel_rfl)) ?_
      refine K.RW.nil ?_
      refine K.thn_normal ?_
      refine K.KW.ret ?_
      refine K.thn_ret ?_
      refine ⟨.inr rfl, (.bool true), K.res1 rfl rfl, ?_⟩
      exact ⟨rfl, c9⟩
    ·  -- no
      refine K.RW.q rfl (by kernel_rfl) (K.QR.nice (v := .bool (decide ((((ys.length : Nat) : Int) : Int) > (300 : Int)))) (by kernel_rfl) (congrArg Value.bool (decide_eq_false h6))) ?_
      refine K.RW.q rfl rfl (K.QR.k (v := .bool false) (by kernel_rfl)) ?_
      refine K.RW.nil ?_
      refine K.thn_normal ?_
      refine K.KW.ifF rfl ?_
      refine K.KW.skip ?_
      refine K.thn_normal ?_
      refine K.KW.seq ?_
      -- region 3 law.go:45
      by_cases h11 : xs.length = ys.length
      ·  -- yes
        -- region 3 law.go:45
        refine K.KW.region ?_
        refine K.RW.q rfl rfl (K.QR.k (v := .slice a xs.length cap) (by kernel_rfl)) ?_
        refine K.RW.q rfl rfl (K.QR.k (v := .slice a' ys.length cap') (by kernel_rfl)) ?_
        refine K.RW.l rfl (K.OW.call rfl [.slice a xs.length cap, .slice a' ys.length cap'] rfl rfl (by kernel_rfl) (between_ok _ _ _ _ xs ys _ (by first | omega | (simp; omega) | simp) (by first | omega | (simp; omega) | simp) hx hy) ?_) 
        rintro v20 w18 ⟨r12, m13, cc14, hv19, c15, o16, rfl⟩
        have e21 : (betweenR xs ys) = ((0 : Int), between xs ys xs.length) := betweenR_0 (by omega)
        simp only [e21] at hv19 o16
        subst hv19
        have c22 := c15
        have z23 := c22.size
        have o24 := K.Own.mono (base' := w0.heap.size) o16 (by omega)
        refine K.RW.q rfl rfl (K.QR.k (v := .tuple #[.slice r12 (((between xs ys xs.length)).length) cc14, .int .i64 0]) (by kernel_rfl)) ?_
        refine K.RW.q rfl rfl (K.QR.k (v := .slice r12 (((between xs ys xs.length)).length) cc14) (by kernel_rfl)) ?_
        refine K.RW.q rfl rfl (K.QR.k (v := .int .i64 0) (by kernel_rfl)) ?_
        refine K.RW.q rfl rfl (K.QR.k (v := .slice r12 (((between xs ys xs.length)).length) cc14) (by kernel_rfl)) ?_
        refine K.RW.q rfl rfl (K.QR.k (v := .int .i64 0) (by kernel_rfl)) ?_
        refine K.RW.nil ?_
        refine K.thn_normal ?_
        refine K.KW.seq ?_
        refine K.KW.seq ?_
        -- region 4 law.go:46
        refine K.KW.region ?_
        refine K.RW.q rfl rfl (K.QR.k (v := .slice a xs.length cap) (by kernel_rfl)) ?_
        refine K.RW.q rfl rfl (K.QR.len (P := Try.prog) rfl rfl Try.underlying32) ?_
        refine K.RW.q rfl rfl (K.QR.k (v := .slice a' ys.length cap') (by kernel_rfl)) ?_
        refine K.RW.q rfl rfl (K.QR.len (P := Try.prog) rfl rfl Try.underlying32) ?_
        refine K.RW.q rfl rfl (K.QR.nice (v := .bool ((((xs.length : Nat) : Int) : Int) != (((ys.length : Nat) : Int) : Int))) (by kernel_rfl) (congrArg Value.bool (bne_eq_false_iff_eq.2 (by omega)))) ?_
        refine K.RW.nil ?_
        refine K.thn_normal ?_
        refine K.KW.ifF rfl ?_
        refine K.KW.skip ?_
        refine K.thn_normal ?_
        refine K.KW.seq ?_
        -- region 6 law.go:49
        refine K.KW.region ?_
        refine K.RW.q rfl rfl (K.QR.k (v := .int .i64 0) (by kernel_rfl)) ?_
        refine K.RW.nil ?_
        refine K.thn_normal ?_
        refine K.KW.seq ?_
        refine K.KW.seq ?_
        -- region 7 law.go:50
        refine K.KW.region ?_
        refine K.RW.q rfl rfl (K.QR.k (v := .int .i64 0) (by kernel_rfl)) ?_
        refine K.RW.nil ?_
        refine K.thn_normal ?_
        refine K.KW.block ?_
        refine K.KW.loop (fun m F w25 => ∃ (i : Nat), m = xs.length - i ∧ K.Sl F [(0, .slice a xs.length cap), (1, .slice a' ys.length cap'), (5, .slice r12 (((between xs ys xs.length)).length) cc14), (6, .int .i64 0), (7, .int .i64 (((between xs ys i).length : Nat) : Int)), (8, .int .i64 ((i : Nat) : Int)), (13, .slice a xs.length cap), (14, .int .i64 ((xs.length : Nat) : Int)), (15, .bool false), (16, .bool false), (17, .slice a' ys.length cap'), (18, .int .i64 ((ys.length : Nat) : Int)), (19, .bool false), (20, .bool false), (22, .tuple #[.slice r12 (((between xs ys xs.length)).length) cc14, .int .i64 0]), (23, .slice a xs.length cap), (24, .slice a' ys.length cap'), (25, .tuple #[.slice r12 (((between xs ys xs.length)).length) cc14, .int .i64 0]), (26, .slice r12 (((between xs ys xs.length)).length) cc14), (27, .int .i64 0), (28, .slice a xs.length cap), (29, .int .i64 ((xs.length : Nat) : Int)), (30, .slice a' ys.length cap'), (31, .int .i64 ((ys.length : Nat) : Int)), (32, .bool false)] ∧ i ≤ xs.length ∧ K.Chg K.No w0 w25 ∧ K.Own w25 w0.heap.size 46 3 r12 (((between xs ys xs.length)).length) cc14 (((between xs ys xs.length)).flatMap chgC)) ((fun (i : Nat) => xs.length - i) 0) ?_ ?_
        · -- the loop begins
          exact ⟨0, rfl, ⟨by rfl, by rfl, by rfl, by rfl, by rfl, by rfl, by rfl, by rfl, by rfl, by rfl, by rfl, by rfl, by rfl, by rfl, by rfl, by rfl, by rfl, by rfl, by rfl, by rfl, by rfl, by rfl, by rfl, by rfl, by rfl, trivial⟩, (by omega), c22, o24⟩
        · -- a round
          intro m26 F27 w25 hI
          obtain ⟨i, rfl, sl28, p30, c29, f31⟩ := hI
          rw [← K.Sl.puts sl28]; clear sl28
          have z32 := c29.size
          have hble := between_le xs ys i
          refine K.KW.seq ?_
          refine K.KW.seq ?_
          -- region 8 law.go:50
          refine K.KW.region ?_
          refine K.RW.q rfl rfl (K.QR.k (v := .int .i64 ((i : Nat) : Int)) (by kernel_rfl)) ?_
          refine K.RW.q rfl rfl (K.QR.k (v := .slice a xs.length cap) (by kernel_rfl)) ?_
          refine K.RW.q rfl rfl (K.QR.len (P := Try.prog) rfl rfl Try.underlying32) ?_
          by_cases h33 : (((i : Nat) : Int) : Int) < (((xs.length : Nat) : Int) : Int)
          ·  -- yes
            refine K.RW.q rfl rfl (K.QR.nice (v := .bool (decide ((((i : Nat) : Int) : Int) < (((xs.length : Nat) : Int) : Int)))) (by kernel_rfl) (congrArg Value.bool (decide_eq_true h33))) ?_
            refine K.RW.nil ?_
            refine K.thn_normal ?_
            refine K.KW.ifT rfl ?_
            refine K.KW.skip ?_
            refine K.thn_normal ?_
            refine K.KW.seq ?_
            refine K.KW.block ?_
            refine K.KW.seq ?_
            -- region 10 law.go:51
            refine K.KW.drawn (fun w => K.Chg K.No w0 w) (by kernel_rfl) ?_
            intro w34 e35 hs36
            have c38 := c29.no e35
            have z39 := c38.size
            have f40 := f31.no e35
            have hS37 : (fun w => K.Chg K.No w0 w) w34 := c38
            refine K.DW.q 0 (by kernel_rfl) rfl rfl (by kernel_rfl) rfl (fun w hS => K.QR.k (v := .slice a xs.length cap) (by kernel_rfl)) hS37 ?_
            refine K.DW.q 1 (by kernel_rfl) rfl rfl (by kernel_rfl) rfl (fun w hS => K.QR.k (v := .int .i64 ((i : Nat) : Int)) (by kernel_rfl)) hS37 ?_
            obtain ⟨b41, of42, rfl, _⟩ := hx.at_ (by omega)
            refine K.DW.q 2 (by kernel_rfl) rfl rfl (by kernel_rfl) rfl (fun w hS => K.QR.ix (of42 + i * 1) 1 rfl rfl rfl Try.underlying32 (by kernel_rfl) (by omega) (by simp)) hS37 ?_
            refine K.DW.q 3 (by kernel_rfl) rfl rfl (by kernel_rfl) rfl (fun w hS => K.QR.ld1 (v := .int .u64 (xs.getD i 0)) rfl rfl (by kernel_rfl) (hS.cell (hx.ld i (by omega) 0 _ rfl) id)) hS37 ?_
            refine K.DW.q 4 (by kernel_rfl) rfl rfl (by kernel_rfl) rfl (fun w hS => K.QR.k (v := .slice a' ys.length cap') (by kernel_rfl)) hS37 ?_
            refine K.DW.q 5 (by kernel_rfl) rfl rfl (by kernel_rfl) rfl (fun w hS => K.QR.k (v := .int .i64 ((i : Nat) : Int)) (by kernel_rfl)) hS37 ?_
            obtain ⟨b43, of44, rfl, _⟩ := hy.at_ (by omega)
            refine K.DW.q 6 (by kernel_rfl) rfl rfl (by kernel_rfl) rfl (fun w hS => K.QR.ix (of44 + i * 1) 1 rfl rfl rfl Try.underlying32 (by kernel_rfl) (by omega) (by simp)) hS37 ?_
            refine K.DW.q 7 (by kernel_rfl) rfl rfl (by kernel_rfl) rfl (fun w hS => K.QR.ld1 (v := .int .u64 (ys.getD i 0)) rfl rfl (by kernel_rfl) (hS.cell (hy.ld i (by omega) 0 _ rfl) id)) hS37 ?_
            by_cases h45 : (xs.getD i 0 : Int) = (ys.getD i 0 : Int)
            ·  -- yes
              refine K.DW.q 8 (by kernel_rfl) rfl rfl (by kernel_rfl) rfl (fun w hS => K.QR.nice (v := .bool ((xs.getD i 0 : Int) != (ys.getD i 0 : Int))) (by kernel_rfl) (congrArg Value.bool (bne_eq_false_iff_eq.2 h45))) hS37 ?_
              refine K.DW.done (by kernel_rfl) ?_
              refine K.thn_normal ?_
              refine K.KW.ifF rfl ?_
              refine K.KW.skip ?_
              refine K.blk_normal ?_
              refine K.thn_normal ?_
              -- region 9 law.go:50
              refine K.KW.region ?_
              refine K.RW.q rfl rfl (K.QR.k (v := .int .i64 ((i : Nat) : Int)) (by kernel_rfl)) ?_
              refine K.RW.q rfl rfl (K.QR.n64 ((((i : Nat) : Int) : Int) + (1 : Int)) ((i + 1 : Nat) : Int) (by kernel_rfl) (by omega)) ?_
              refine K.RW.q rfl rfl (K.QR.k (v := .int .i64 ((i + 1 : Nat) : Int)) (by kernel_rfl)) ?_
              refine K.RW.nil ?_
              refine K.thn_normal ?_
              refine ⟨_, ?_, i + 1, rfl, ⟨by rfl, by rfl, by rfl, by rfl, by first | (show Value.int .i64 _ = _; rw [between_ne (by assumption)]; simp; done) | (show Value.int .i64 _ = _; rw [between_eq (by assumption)]), by rfl, by rfl, by rfl, by rfl, by rfl, by rfl, by rfl, by rfl, by rfl, by rfl, by rfl, by rfl, by rfl, by rfl, by rfl, by rfl, by rfl, by rfl, by rfl, by rfl, trivial⟩, (by omega), c38, f40⟩
              omega
            ·  -- no
              refine K.DW.q 8 (by kernel_rfl) rfl rfl (by kernel_rfl) rfl (fun w hS => K.QR.nice (v := .bool ((xs.getD i 0 : Int) != (ys.getD i 0 : Int))) (by kernel_rfl) (congrArg Value.bool (bne_iff_ne.2 h45))) hS37 ?_
              refine K.DW.done (by kernel_rfl) ?_
              refine K.thn_normal ?_
              refine K.KW.ifT rfl ?_
              refine K.KW.seq ?_
              refine K.KW.seq ?_
              -- region 11 law.go:52
              have hgt := (between_at_k (xs := xs) (ys := ys) (k := i) (N := xs.length) (by omega) (by assumption)).2
              have hmo := between_mono xs ys (k := i) (xs.length - i)
              obtain ⟨b46, rfl, gb48, gl49⟩ := f40.some_ (by omega)
              refine K.KW.drawn (fun w => K.Chg K.No w0 w ∧ K.Own w w0.heap.size 46 3 (some ⟨b46, 0, none⟩) (((between xs ys xs.length)).length) cc14 (((between xs ys xs.length)).flatMap chgC)) (by kernel_rfl) ?_
              intro w50 e51 hs52
              have c54 := c38.no e51
              have z55 := c54.size
              have f56 := f40.no e51
              have hS53 : (fun w => K.Chg K.No w0 w ∧ K.Own w w0.heap.size 46 3 (some ⟨b46, 0, none⟩) (((between xs ys xs.length)).length) cc14 (((between xs ys xs.length)).flatMap chgC)) w50 := ⟨c54, f56⟩
              refine K.DW.q 0 (by kernel_rfl) rfl rfl (by kernel_rfl) rfl (fun w hS => K.QR.k (v := .int .i64 (((between xs ys i).length : Nat) : Int)) (by kernel_rfl)) hS53 ?_
              refine K.DW.q 1 (by kernel_rfl) rfl rfl (by kernel_rfl) rfl (fun w hS => K.QR.k (v := .slice (some ⟨b46, 0, none⟩) (((between xs ys xs.length)).length) cc14) (by kernel_rfl)) hS53 ?_
              refine K.DW.q 2 (by kernel_rfl) rfl rfl (by kernel_rfl) rfl (fun w hS => K.QR.len (P := Try.prog) rfl rfl Try.underlying42) hS53 ?_
              refine K.DW.q 3 (by kernel_rfl) rfl rfl (by kernel_rfl) rfl (fun w hS => K.QR.nice (v := .bool (decide (((((between xs ys i).length : Nat) : Int) : Int) ≥ (((((between xs ys xs.length)).length : Nat) : Int) : Int)))) (by kernel_rfl) (congrArg Value.bool (decide_eq_false (by omega)))) hS53 ?_
              refine K.DW.q 4 (by kernel_rfl) rfl rfl (by kernel_rfl) rfl (fun w hS => K.QR.k (v := .bool false) (by kernel_rfl)) hS53 ?_
              refine K.DW.q 5 (by kernel_rfl) rfl rfl (by kernel_rfl) (by kernel_rfl) (fun w hS => K.QR.k (v := .slice (some ⟨b46, 0, none⟩) (((between xs ys xs.length)).length) cc14) (by kernel_rfl)) hS53 ?_
              refine K.DW.q 6 (by kernel_rfl) rfl rfl (by kernel_rfl) (by kernel_rfl) (fun w hS => K.QR.k (v := .int .i64 (((between xs ys i).length : Nat) : Int)) (by kernel_rfl)) hS53 ?_
              refine K.DW.q 7 (by kernel_rfl) rfl rfl (by kernel_rfl) (by kernel_rfl) (fun w hS => K.QR.ix (0 + ((between xs ys i).length) * 3) 3 rfl rfl rfl Try.underlying42 (by kernel_rfl) (by omega) (by simp)) hS53 ?_
              refine K.DW.q 8 (by kernel_rfl) rfl rfl (by kernel_rfl) (by kernel_rfl) (fun w hS => K.QR.ldN [.int .i64 (((between xs ys xs.length).getD ((between xs ys i).length) d3).at_), .int .u64 (((between xs ys xs.length).getD ((between xs ys i).length) d3).old), .int .u64 (((between xs ys xs.length).getD ((between xs ys i).length) d3).new)] rfl rfl (by kernel_rfl) (by kernel_rfl) (K.cells (K.cl ((K.Own.rowE d3 hS.2 rfl (fun _ => rfl)).ld ((between xs ys i).length) (by omega) 0 _ rfl) (K.cl ((K.Own.rowE d3 hS.2 rfl (fun _ => rfl)).ld ((between xs ys i).length) (by omega) 1 _ rfl) (K.cl ((K.Own.rowE d3 hS.2 rfl (fun _ => rfl)).ld ((between xs ys i).length) (by omega) 2 _ rfl) K.cl0))))) hS53 ?_
              refine K.DW.q 9 (by kernel_rfl) rfl rfl (by kernel_rfl) (by kernel_rfl) (fun w hS => K.QR.k (v := .int .i64 ((i : Nat) : Int)) (by kernel_rfl)) hS53 ?_
              refine K.DW.q 10 (by kernel_rfl) rfl rfl (by kernel_rfl) (by kernel_rfl) (fun w hS => K.QR.k (v := .slice (some ⟨b41, of42, none⟩) xs.length cap) (by kernel_rfl)) hS53 ?_
              refine K.DW.q 11 (by kernel_rfl) rfl rfl (by kernel_rfl) (by kernel_rfl) (fun w hS => K.QR.k (v := .int .i64 ((i : Nat) : Int)) (by kernel_rfl)) hS53 ?_
              refine K.DW.q 12 (by kernel_rfl) rfl rfl (by kernel_rfl) (by kernel_rfl) (fun w hS => K.QR.ix (of42 + i * 1) 1 rfl rfl rfl Try.underlying32 (by kernel_rfl) (by omega) (by simp)) hS53 ?_
              refine K.DW.q 13 (by kernel_rfl) rfl rfl (by kernel_rfl) (by kernel_rfl) (fun w hS => K.QR.ld1 (v := .int .u64 (xs.getD i 0)) rfl rfl (by kernel_rfl) (hS.1.cell (hx.ld i (by omega) 0 _ rfl) id)) hS53 ?_
              refine K.DW.q 14 (by kernel_rfl) rfl rfl (by kernel_rfl) (by kernel_rfl) (fun w hS => K.QR.k (v := .slice (some ⟨b43, of44, none⟩) ys.length cap') (by kernel_rfl)) hS53 ?_
              refine K.DW.q 15 (by kernel_rfl) rfl rfl (by kernel_rfl) (by kernel_rfl) (fun w hS => K.QR.k (v := .int .i64 ((i : Nat) : Int)) (by kernel_rfl)) hS53 ?_
              refine K.DW.q 16 (by kernel_rfl) rfl rfl (by kernel_rfl) (by kernel_rfl) (fun w hS => K.QR.ix (of44 + i * 1) 1 rfl rfl rfl Try.underlying32 (by kernel_rfl) (by omega) (by simp)) hS53 ?_
              refine K.DW.q 17 (by kernel_rfl) rfl rfl (by kernel_rfl) (by kernel_rfl) (fun w hS => K.QR.ld1 (v := .int .u64 (ys.getD i 0)) rfl rfl (by kernel_rfl) (hS.1.cell (hy.ld i (by omega) 0 _ rfl) id)) hS53 ?_
              refine K.DW.q 18 (by kernel_rfl) rfl rfl (by kernel_rfl) (by kernel_rfl) (fun w hS => K.QR.bd [(0, .int .i64 ((i : Nat) : Int)), (1, .int .u64 (xs.getD i 0)), (2, .int .u64 (ys.getD i 0))] [.int .i64 ((i : Nat) : Int), .int .u64 (xs.getD i 0), .int .u64 (ys.getD i 0)] rfl rfl (by kernel_rfl)) hS53 ?_
              refine K.DW.q 19 (by kernel_rfl) rfl rfl (by kernel_rfl) (by kernel_rfl) (fun w hS => K.QR.neS (by kernel_rfl) rfl rfl rfl (eqC_t (by rw [(between_at_k (k := i) (N := xs.length) (by omega) (by assumption)).1]; exact ⟨rfl, rfl, rfl⟩))) hS53 ?_
              refine K.DW.q 20 (by kernel_rfl) rfl rfl (by kernel_rfl) rfl (fun w hS => K.QR.k (v := .bool false) (by kernel_rfl)) hS53 ?_
              refine K.DW.done (by kernel_rfl) ?_
              refine K.thn_normal ?_
              refine K.KW.ifF rfl ?_
              refine K.KW.skip ?_
              refine K.thn_normal ?_
              -- region 13 law.go:55
              refine K.KW.region ?_
              refine K.RW.q rfl rfl (K.QR.k (v := .int .i64 (((between xs ys i).length : Nat) : Int)) (by kernel_rfl)) ?_
              refine K.RW.q rfl rfl (K.QR.n64 (((((between xs ys i).length : Nat) : Int) : Int) + (1 : Int)) (((between xs ys i).length + 1 : Nat) : Int) (by kernel_rfl) (by omega)) ?_
              refine K.RW.q rfl rfl (K.QR.k (v := .int .i64 (((between xs ys i).length + 1 : Nat) : Int)) (by kernel_rfl)) ?_
              refine K.RW.nil ?_
              refine K.blk_normal ?_
              refine K.thn_normal ?_
              -- region 9 law.go:50
              refine K.KW.region ?_
              refine K.RW.q rfl rfl (K.QR.k (v := .int .i64 ((i : Nat) : Int)) (by kernel_rfl)) ?_
              refine K.RW.q rfl rfl (K.QR.n64 ((((i : Nat) : Int) : Int) + (1 : Int)) ((i + 1 : Nat) : Int) (by kernel_rfl) (by omega)) ?_
              refine K.RW.q rfl rfl (K.QR.k (v := .int .i64 ((i + 1 : Nat) : Int)) (by kernel_rfl)) ?_
              refine K.RW.nil ?_
              refine K.thn_normal ?_
              refine ⟨_, ?_, i + 1, rfl, ⟨by rfl, by rfl, by rfl, by rfl, by first | (show Value.int .i64 _ = _; rw [between_ne (by assumption)]; simp; done) | (show Value.int .i64 _ = _; rw [between_eq (by assumption)]), by rfl, by rfl, by rfl, by rfl, by rfl, by rfl, by rfl, by rfl, by rfl, by rfl, by rfl, by rfl, by rfl, by rfl, by rfl, by rfl, by rfl, by rfl, by rfl, by rfl, trivial⟩, (by omega), c54, f56⟩
              omega
          ·  -- no
            refine K.RW.q rfl rfl (K.QR.nice (v := .bool (decide ((((i : Nat) : Int) : Int) < (((xs.length : Nat) : Int) : Int)))) (by kernel_rfl) (congrArg Value.bool (decide_eq_false h33))) ?_
            refine K.RW.nil ?_
            refine K.thn_normal ?_
            refine K.KW.ifF rfl ?_
            refine K.KW.exit ?_
            refine K.thn_exit ?_
            refine K.thn_exit ?_
            refine K.blk_hit ?_
            refine K.thn_normal ?_
            refine K.KW.seq ?_
            -- region 14 law.go:58
            have hlen : (between xs ys i).length = (between xs ys xs.length).length := by rw [show i = xs.length by omega]
            refine K.KW.region ?_
            refine K.RW.q rfl rfl (K.QR.k (v := .slice a xs.length cap) (by kernel_rfl)) ?_
            refine K.RW.q rfl rfl (K.QR.k (v := .slice r12 (((between xs ys xs.length)).length) cc14) (by kernel_rfl)) ?_
            refine K.RW.l rfl (K.OW.call rfl [.slice a xs.length cap, .slice r12 (((between xs ys xs.length)).length) cc14] rfl rfl (by kernel_rfl) (apply_ok _ _ _ _ xs (between xs ys xs.length) _ (by first | omega | (simp; omega) | simp) (by first | omega | (simp; omega) | simp) (hx.no c29) (K.Own.rowE d3 f31 rfl (fun _ => rfl))) ?_) 
            rintro v65 w63 ⟨r57, m58, cc59, hv64, c60, o61, rfl⟩
            have e66 : (apply xs (between xs ys xs.length)) = ((0 : Int), ys) := apply_between (by omega)
            simp only [e66] at hv64 o61
            subst hv64
            have c67 := c29.no c60
            have z68 := c67.size
            have f69 := f31.no c60
            have o70 := K.Own.mono (base' := w0.heap.size) o61 (by omega)
            refine K.RW.q rfl rfl (K.QR.k (v := .tuple #[.slice r57 ((ys).length) cc59, .int .i64 0]) (by kernel_rfl)) ?_
            refine K.RW.q rfl rfl (K.QR.k (v := .slice r57 ((ys).length) cc59) (by kernel_rfl)) ?_
            refine K.RW.q rfl rfl (K.QR.k (v := .int .i64 0) (by kernel_rfl)) ?_
            refine K.RW.q rfl rfl (K.QR.k (v := .slice r57 ((ys).length) cc59) (by kernel_rfl)) ?_
            refine K.RW.q rfl rfl (K.QR.k (v := .int .i64 0) (by kernel_rfl)) ?_
            refine K.RW.nil ?_
            refine K.thn_normal ?_
            refine K.KW.seq ?_
            -- region 15 law.go:59
            refine K.KW.region ?_
            refine K.RW.q rfl rfl (K.QR.k (v := .slice a' ys.length cap') (by kernel_rfl)) ?_
            refine K.RW.q rfl rfl (K.QR.k (v := .slice r12 (((between xs ys xs.length)).length) cc14) (by kernel_rfl)) ?_
            refine K.RW.l rfl (K.OW.call rfl [.slice r12 (((between xs ys xs.length)).length) cc14] rfl rfl (by kernel_rfl) (back_ok _ _ (between xs ys xs.length) _ (by first | omega | (simp; omega) | simp) (K.Own.rowE d3 f69 rfl (fun _ => rfl))) ?_) 
            rintro _ w77 ⟨r71, m72, cc73, rfl, c74, o75, rfl⟩
            have c78 := c67.no c74
            have z79 := c78.size
            have f80 := f69.no c74
            have f81 := o70.no c74
            have o82 := K.Own.mono (base' := w0.heap.size) o75 (by omega)
            refine K.RW.l rfl (K.OW.call rfl [.slice a' ys.length cap', .slice r71 (((between xs ys xs.length).map back1).length) cc73] rfl rfl (by kernel_rfl) (apply_ok _ _ _ _ ys ((between xs ys xs.length).map back1) _ (by first | omega | (simp; omega) | simp) (by first | omega | (simp; omega) | simp) (hy.no c78) (K.Own.rowE d3 o82 rfl (fun _ => rfl))) ?_) 
            rintro v91 w89 ⟨r83, m84, cc85, hv90, c86, o87, rfl⟩
            have e92 : (apply ys ((between xs ys xs.length).map back1)) = ((0 : Int), xs) := apply_back (by omega)
            simp only [e92] at hv90 o87
            subst hv90
            have c93 := c78.no c86
            have z94 := c93.size
            have f95 := f80.no c86
            have f96 := f81.no c86
            have f97 := o82.no c86
            have o98 := K.Own.mono (base' := w0.heap.size) o87 (by omega)
            refine K.RW.q rfl rfl (K.QR.k (v := .tuple #[.slice r83 ((xs).length) cc85, .int .i64 0]) (by kernel_rfl)) ?_
            refine K.RW.q rfl rfl (K.QR.k (v := .slice r83 ((xs).length) cc85) (by kernel_rfl)) ?_
            refine K.RW.q rfl rfl (K.QR.k (v := .int .i64 0) (by kernel_rfl)) ?_
            refine K.RW.q rfl rfl (K.QR.k (v := .slice r83 ((xs).length) cc85) (by kernel_rfl)) ?_
            refine K.RW.q rfl rfl (K.QR.k (v := .int .i64 0) (by kernel_rfl)) ?_
            refine K.RW.nil ?_
            refine K.thn_normal ?_
            refine K.KW.seq ?_
            -- region 16 law.go:60
            refine K.KW.region ?_
            refine K.RW.l rfl (K.OW.call rfl [] rfl rfl (by kernel_rfl) (awake34_ok _) ?_) 
            rintro _ w100 ⟨rfl, c99⟩
            have c101 := c93.no c99
            have z102 := c101.size
            have f103 := f95.no c99
            have f104 := f96.no c99
            have f105 := f97.no c99
            have f106 := o98.no c99
            refine K.RW.q rfl rfl (K.QR.k (v := .bool true) (by kernel_rfl)) ?_
            refine K.RW.q rfl (by kernel_rfl) (K.QR.k (v := .int .i64 0) (by kernel_rfl)) ?_
            refine K.RW.q rfl (by kernel_rfl) (K.QR.k (v := .bool true) (by kernel_rfl)) ?_
            refine K.RW.q rfl rfl (K.QR.k (v := .bool true) (by kernel_rfl)) ?_
            refine K.RW.q rfl rfl (K.QR.k (v := .bool true) (by kernel_rfl)) ?_
            refine K.RW.q rfl (by kernel_rfl) (K.QR.k (v := .int .i64 (((between xs ys i).length : Nat) : Int)) (by kernel_rfl)) ?_
            refine K.RW.q rfl (by kernel_rfl) (K.QR.k (v := .slice r12 (((between xs ys xs.length)).length) cc14) (by kernel_rfl)) ?_
            refine K.RW.q rfl (by kernel_rfl) (K.QR.len (P := Try.prog) rfl rfl Try.underlying42) ?_
            refine K.RW.q rfl (by kernel_rfl) (K.QR.nice (v := .bool (((((between xs ys i).length : Nat) : Int) : Int) == (((((between xs ys xs.length)).length : Nat) : Int) : Int))) (by kernel_rfl) (congrArg Value.bool (beq_iff_eq.2 (by omega)))) ?_
            refine K.RW.q rfl rfl (K.QR.k (v := .bool true) (by kernel_rfl)) ?_
            refine K.RW.q rfl rfl (K.QR.k (v := .bool true) (by kernel_rfl)) ?_
            refine K.RW.q rfl (by kernel_rfl) (K.QR.k (v := .slice r12 (((between xs ys xs.length)).length) cc14) (by kernel_rfl)) ?_
            refine K.RW.l (by kernel_rfl) (K.OW.call rfl [.slice r12 (((between xs ys xs.length)).length) cc14] rfl rfl (by kernel_rfl) (right_ok _ _ (between xs ys xs.length) _ (by first | omega | (simp; omega) | simp) (K.Own.rowE d3 f103 rfl (fun _ => rfl))) ?_) 
            rintro v110 w108 ⟨hv109, c107⟩
            have c111 := c101.no c107
            have z112 := c111.size
            have f113 := f103.no c107
            have f114 := f104.no c107
            have f115 := f105.no c107
            have f116 := f106.no c107
            have hb117 : right (between xs ys xs.length) = true := (right_of (right_between xs ys _))
            rw [hb117] at hv109; subst hv109
            refine K.RW.q rfl rfl (K.QR.k (v := .bool true) (by kernel_rfl)) ?_
            refine K.RW.q rfl rfl (K.QR.k (v := .bool true) (by kernel_rfl)) ?_
            refine K.RW.q rfl (by kernel_rfl) (K.QR.k (v := .int .i64 0) (by kernel_rfl)) ?_
            refine K.RW.q rfl (by kernel_rfl) (K.QR.k (v := .bool true) (by kernel_rfl)) ?_
            refine K.RW.q rfl rfl (K.QR.k (v := .bool true) (by kernel_rfl)) ?_
            refine K.RW.q rfl rfl (K.QR.k (v := .bool true) (by kernel_rfl)) ?_
            refine K.RW.q rfl (by kernel_rfl) (K.QR.k (v := .int .i64 0) (by kernel_rfl)) ?_
            refine K.RW.q rfl (by kernel_rfl) (K.QR.k (v := .bool true) (by kernel_rfl)) ?_
            refine K.RW.q rfl rfl (K.QR.k (v := .bool true) (by kernel_rfl)) ?_
            refine K.RW.q rfl rfl (K.QR.k (v := .bool true) (by kernel_rfl)) ?_
            refine K.RW.q rfl (by kernel_rfl) (K.QR.k (v := .slice r57 ((ys).length) cc59) (by kernel_rfl)) ?_
            refine K.RW.q rfl (by kernel_rfl) (K.QR.k (v := .slice a' ys.length cap') (by kernel_rfl)) ?_
            refine K.RW.l (by kernel_rfl) (K.OW.call rfl [.slice r57 ((ys).length) cc59, .slice a' ys.length cap'] rfl rfl (by kernel_rfl) (same_ok _ _ _ _ ys ys _ (by first | omega | (simp; omega) | simp) (K.Own.rowE 0 f114 rfl (fun _ => rfl)) (hy.no c111)) ?_) 
            rintro v121 w119 ⟨hv120, c118⟩
            have c122 := c111.no c118
            have z123 := c122.size
            have f124 := f113.no c118
            have f125 := f114.no c118
            have f126 := f115.no c118
            have f127 := f116.no c118
            have hb128 : sameB ys ys = true := (decide_eq_true rfl)
            rw [hb128] at hv120; subst hv120
            refine K.RW.q rfl rfl (K.QR.k (v := .bool true) (by kernel_rfl)) ?_
            refine K.RW.q rfl rfl (K.QR.k (v := .bool true) (by kernel_rfl)) ?_
            refine K.RW.q rfl (by kernel_rfl) (K.QR.k (v := .slice r83 ((xs).length) cc85) (by kernel_rfl)) ?_
            refine K.RW.q rfl (by kernel_rfl) (K.QR.k (v := .slice a xs.length cap) (by kernel_rfl)) ?_
            refine K.RW.l (by kernel_rfl) (K.OW.call rfl [.slice r83 ((xs).length) cc85, .slice a xs.length cap] rfl rfl (by kernel_rfl) (same_ok _ _ _ _ xs xs _ (by first | omega | (simp; omega) | simp) (K.Own.rowE 0 f127 rfl (fun _ => rfl)) (hx.no c122)) ?_) 
            rintro v132 w130 ⟨hv131, c129⟩
            have c133 := c122.no c129
            have z134 := c133.size
            have f135 := f124.no c129
            have f136 := f125.no c129
            have f137 := f126.no c129
            have f138 := f127.no c129
            have hb139 : sameB xs xs = true := (decide_eq_true rfl)
            rw [hb139] at hv131; subst hv131
            refine K.RW.q rfl rfl (K.QR.k (v := .bool true) (by kernel_rfl)) ?_
            refine K.RW.q rfl rfl (K.QR.k (v := .bool true) (by kernel_rfl)) ?_
            refine K.RW.nil ?_
            refine K.thn_normal ?_
            refine K.KW.ret ?_
            refine ⟨.inr rfl, (.bool true), K.res1 rfl rfl, ?_⟩
            exact ⟨rfl, c133⟩
      ·  -- no
        -- region 3 law.go:45
        refine K.KW.region ?_
        refine K.RW.q rfl rfl (K.QR.k (v := .slice a xs.length cap) (by kernel_rfl)) ?_
        refine K.RW.q rfl rfl (K.QR.k (v := .slice a' ys.length cap') (by kernel_rfl)) ?_
        refine K.RW.l rfl (K.OW.call rfl [.slice a xs.length cap, .slice a' ys.length cap'] rfl rfl (by kernel_rfl) (between_ok _ _ _ _ xs ys _ (by first | omega | (simp; omega) | simp) (by first | omega | (simp; omega) | simp) hx hy) ?_) 
        rintro v148 w146 ⟨r140, m141, cc142, hv147, c143, o144, l145⟩
        have e149 : (betweenR xs ys) = ((3 : Int), ([] : List Chg3)) := betweenR_3 (by omega)
        simp only [e149] at hv147 o144 l145
        obtain rfl : 0 = m141 := l145
        subst hv147
        have c150 := c143
        have z151 := c150.size
        have o152 := K.Own.mono (base' := w0.heap.size) o144 (by omega)
        refine K.RW.q rfl rfl (K.QR.k (v := .tuple #[.slice r140 0 cc142, .int .i64 3]) (by kernel_rfl)) ?_
        refine K.RW.q rfl rfl (K.QR.k (v := .slice r140 0 cc142) (by kernel_rfl)) ?_
        refine K.RW.q rfl rfl (K.QR.k (v := .int .i64 3) (by kernel_rfl)) ?_
        refine K.RW.q rfl rfl (K.QR.k (v := .slice r140 0 cc142) (by kernel_rfl)) ?_
        refine K.RW.q rfl rfl (K.QR.k (v := .int .i64 3) (by kernel_rfl)) ?_
        refine K.RW.nil ?_
        refine K.thn_normal ?_
        refine K.KW.seq ?_
        refine K.KW.seq ?_
        -- region 4 law.go:46
        refine K.KW.region ?_
        refine K.RW.q rfl rfl (K.QR.k (v := .slice a xs.length cap) (by kernel_rfl)) ?_
        refine K.RW.q rfl rfl (K.QR.len (P := Try.prog) rfl rfl Try.underlying32) ?_
        refine K.RW.q rfl rfl (K.QR.k (v := .slice a' ys.length cap') (by kernel_rfl)) ?_
        refine K.RW.q rfl rfl (K.QR.len (P := Try.prog) rfl rfl Try.underlying32) ?_
        refine K.RW.q rfl rfl (K.QR.nice (v := .bool ((((xs.length : Nat) : Int) : Int) != (((ys.length : Nat) : Int) : Int))) (by kernel_rfl) (congrArg Value.bool (bne_iff_ne.2 (by omega)))) ?_
        refine K.RW.nil ?_
        refine K.thn_normal ?_
        refine K.KW.ifT rfl ?_
        refine K.KW.seq ?_
        -- region 5 law.go:47
        refine K.KW.region ?_
        refine K.RW.l rfl (K.OW.call rfl [] rfl rfl (by kernel_rfl) (awake34_ok _) ?_) 
        rintro _ w154 ⟨rfl, c153⟩
        have c155 := c150.no c153
        have z156 := c155.size
        have f157 := o152.no c153
        refine K.RW.q rfl rfl (K.QR.k (v := .bool true) (by kernel_rfl)) ?_
        refine K.RW.q rfl (by kernel_rfl) (K.QR.k (v := .int .i64 3) (by kernel_rfl)) ?_
        refine K.RW.q rfl (by kernel_rfl) (K.QR.k (v := .bool true) (by kernel_rfl)) ?_
        refine K.RW.q rfl rfl (K.QR.k (v := .bool true) (by kernel_rfl)) ?_
        refine K.RW.q rfl rfl (K.QR.k (v := .bool true) (by kernel_rfl)) ?_
        refine K.RW.q rfl (by kernel_rfl) (K.QR.k (v := .slice r140 0 cc142) (by kernel_rfl)) ?_
        refine K.RW.q rfl (by kernel_rfl) (K.QR.len (P := Try.prog) rfl rfl Try.underlying42) ?_
        refine K.RW.q rfl (by kernel_rfl) (K.QR.k (v := .bool true) (by kernel_rfl)) ?_
        refine K.RW.q rfl rfl (K.QR.k (v := .bool true) (by kernel_rfl)) ?_
        refine K.RW.q rfl rfl (K.QR.k (v := .bool true) (by kernel_rfl)) ?_
        refine K.RW.nil ?_
        refine K.thn_normal ?_
        refine K.KW.ret ?_
        refine K.thn_ret ?_
        refine ⟨.inr rfl, (.bool true), K.res1 rfl rfl, ?_⟩
        exact ⟨rfl, c155⟩

end Go.Proofs.Ytcmlompigmhddaa
