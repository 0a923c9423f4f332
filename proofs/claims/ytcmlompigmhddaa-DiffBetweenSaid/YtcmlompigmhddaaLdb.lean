/- DiffBetween: the patch between two images makes one of the other, and back; it has just the words that differ. -/
import Derived.Test.YtcmlompigmhddaaFdlaw
namespace Go.Proofs.Ytcmlompigmhddaa
open Go.RowKit
set_option linter.unusedVariables false
attribute [local irreducible] K.KW K.RW K.DW K.OW K.QR K.KC

set_option maxHeartbeats 1000000 in
set_option maxRecDepth 100000 in
theorem lawdb_ok (a a' : Option Addr) (cap cap' : Nat) (xs ys : List Int) (w0 : World) (hm0 : xs.length ≤ 9223372036854775807) (hm1 : ys.length ≤ 9223372036854775807) (hx : RU64 w0 a xs) (hy : RU64 w0 a' ys) :
    K.KC Try.prog 5 #[.slice a xs.length cap, .slice a' ys.length cap'] w0 (fun v w' => v = .bool true ∧ K.Chg K.No w0 w') := by
  refine K.KC.mk (n := 127) Try.func5 rfl rfl [.slice a xs.length cap, .slice a' ys.length cap'] rfl rfl ?_
  refine K.KW.seq ?_
  -- region 0 law.go:41
  refine K.KW.region ?_
  refine K.RW.q rfl rfl (K.QR.k (v := .bool false) (by kernel_rfl)) ?_
  refine K.RW.nil ?_
  refine K.thn_normal ?_
  refine K.KW.seq ?_
  refine K.KW.seq ?_
  -- region 1 law.go:42
  refine K.KW.region ?_
  refine K.RW.q rfl rfl (K.QR.k (v := .slice a xs.length cap) (by kernel_rfl)) ?_
  refine K.RW.q rfl rfl (K.QR.len (P := Try.prog) rfl rfl Try.underlying32) ?_
  by_cases h1 : (((xs.length : Nat) : Int) : Int) > (300 : Int)
  ·  -- yes
    refine K.RW.q rfl rfl (K.QR.nice (v := .bool (decide ((((xs.length : Nat) : Int) : Int) > (300 : Int)))) (by kernel_rfl) (congrArg Value.bool (decide_eq_true h1))) ?_
    refine K.RW.q rfl rfl (K.QR.k (v := .bool true) (by kernel_rfl)) ?_
    refine K.RW.skip rfl (by kernel_rfl) ?_
    refine K.RW.skip rfl (by kernel_rfl) ?_
    refine K.RW.skip rfl (by kernel_rfl) ?_
    refine K.RW.q rfl rfl (K.QR.k (v := .bool true) (by kernel_rfl)) ?_
    refine K.RW.nil ?_
    refine K.thn_normal ?_
    refine K.KW.ifT rfl ?_
    refine K.KW.seq ?_
    -- region 2 law.go:43
    refine K.KW.region ?_
    refine K.RW.l rfl (K.OW.call rfl [] rfl rfl (by kernel_rfl) (awake34_ok _) ?_) 
    rintro _ w3 ⟨rfl, c2⟩
    have c4 := c2
    have z5 := c4.size
    refine K.RW.q rfl rfl (K.QR.k (v := .bool true) (by kernel_rfl)) ?_
    refine K.RW.nil ?_
    refine K.thn_normal ?_
    refine K.KW.ret ?_
    refine K.thn_ret ?_
    refine ⟨.inr rfl, (.bool true), K.res1 rfl rfl, ?_⟩
    exact ⟨rfl, c4⟩
  ·  -- no
    refine K.RW.q rfl rfl (K.QR.nice (v := .bool (decide ((((xs.length : Nat) : Int) : Int) > (300 : Int)))) (by kernel_rfl) (congrArg Value.bool (decide_eq_false h1))) ?_
    refine K.RW.q rfl rfl (K.QR.k (v := .bool false) (by kernel_rfl)) ?_
    refine K.RW.q rfl (by kernel_rfl) (K.QR.k (v := .slice a' ys.length cap') (by kernel_rfl)) ?_
    refine K.RW.q rfl (by kernel_rfl) (K.QR.len (P := Try.prog) rfl rfl Try.underlying32) ?_
    by_cases h6 : (((ys.length : Nat) : Int) : Int) > (300 : Int)
    ·  -- yes
      refine K.RW.q rfl (by kernel_rfl) (K.QR.nice (v := .bool (decide ((((ys.length : Nat) : Int) : Int) > (300 : Int)))) (by kernel_rfl) (congrArg Value.bool (decide_eq_true h6))) ?_
      refine K.RW.q rfl rfl (K.QR.k (v := .bool true) (by kernel_rfl)) ?_
      refine K.RW.nil ?_
      refine K.thn_normal ?_
      refine K.KW.ifT rfl ?_
      refine K.KW.seq ?_
      -- region 2 law.go:43
      refine K.KW.region ?_
      refine K.RW.l rfl (K.OW.call rfl [] rfl rfl (by kernel_rfl) (awake34_ok _) ?_) 
      rintro _ w8 ⟨rfl, c7⟩
      have c9 := c7
      have z10 := c9.size
      refine K.RW.q rfl rfl (K.QR.k (v := .bool true) (by kernel_rfl)) ?_
      refine K.RW.nil ?_
      refine K.thn_normal ?_
      refine K.KW.ret ?_
      refine K.thn_ret ?_
      refine ⟨.inr rfl, (.bool true), K.res1 rfl rfl, ?_⟩
      exact ⟨rfl, c9⟩
    ·  -- no
      refine K.RW.q rfl (by kernel_rfl) (K.QR.nice (v := .bool (decide ((((ys.length : Nat) : Int) : Int) > (300 : Int)))) (by kernel_rfl) (congrArg Value.bool (decide_eq_false h6))) ?_
      refine K.RW.q rfl rfl (K.QR.k (v := .bool false) (by kernel_rfl)) ?_
      refine K.RW.nil ?_
      refine K.thn_normal ?_
      refine K.KW.ifF rfl ?_
      refine K.KW.skip ?_
      refine K.thn_normal ?_
      refine K.KW.seq ?_
      -- region 3 law.go:45
      by_cases h11 : xs.length = ys.length
      ·  -- yes
        -- region 3 law.go:45
        refine K.KW.region ?_
        refine K.RW.q rfl rfl (K.QR.k (v := .slice a xs.length cap) (by kernel_rfl)) ?_
        refine K.RW.q rfl rfl (K.QR.k (v := .slice a' ys.length cap') (by kernel_rfl)) ?_
        refine K.RW.l rfl (K.OW.call rfl [.slice a xs.length cap, .slice a' ys.length cap'] rfl rfl (by kernel_rfl) (between_ok _ _ _ _ xs ys _ (by first | omega | (simp; omega) | (simp; done)) (by first | omega | (simp; omega) | (simp; done)) hx hy) ?_) 
        rintro v20 w18 ⟨r12, m13, cc14, hv19, c15, o16, rfl⟩
        have e21 : (betweenR xs ys) = ((0 : Int), between xs ys xs.length) := betweenR_0 (by omega)
        simp only [e21] at hv19 o16
        subst hv19
        have c22 := c15
        have z23 := c22.size
        have o24 := K.Own.mono (base' := w0.heap.size) o16 (by omega)
        refine K.RW.q rfl rfl (K.QR.k (v := .tuple #[.slice r12 (((between xs ys xs.length)).length) cc14, .int .i64 0]) (by kernel_rfl)) ?_
        refine K.RW.q rfl rfl (K.QR.k (v := .slice r12 (((between xs ys xs.length)).length) cc14) (by kernel_rfl)) ?_
        refine K.RW.q rfl rfl (K.QR.k (v := .int .i64 0) (by kernel_rfl)) ?_
        refine K.RW.q rfl rfl (K.QR.k (v := .slice r12 (((between xs ys xs.length)).length) cc14) (by kernel_rfl)) ?_
        refine K.RW.q rfl rfl (K.QR.k (v := .int .i64 0) (by kernel_rfl)) ?_
        refine K.RW.nil ?_
        refine K.thn_normal ?_
        refine K.KW.seq ?_
        refine K.KW.seq ?_
        -- region 4 law.go:46
        refine K.KW.region ?_
        refine K.RW.q rfl rfl (K.QR.k (v := .slice a xs.length cap) (by kernel_rfl)) ?_
        refine K.RW.q rfl rfl (K.QR.len (P := Try.prog) rfl rfl Try.underlying32) ?_
        refine K.RW.q rfl rfl (K.QR.k (v := .slice a' ys.length cap') (by kernel_rfl)) ?_
        refine K.RW.q rfl rfl (K.QR.len (P := Try.prog) rfl rfl Try.underlying32) ?_
        refine K.RW.q rfl rfl (K.QR.nice (v := .bool ((((xs.length : Nat) : Int) : Int) != (((ys.length : Nat) : Int) : Int))) (by kernel_rfl) (congrArg Value.bool (bne_eq_false_iff_eq.2 (by omega)))) ?_
        refine K.RW.nil ?_
        refine K.thn_normal ?_
        refine K.KW.ifF rfl ?_
        refine K.KW.skip ?_
        refine K.thn_normal ?_
        refine K.KW.seq ?_
        -- region 6 law.go:49
        refine K.KW.region ?_
        refine K.RW.q rfl rfl (K.QR.k (v := .int .i64 0) (by kernel_rfl)) ?_
        refine K.RW.nil ?_
        refine K.thn_normal ?_
        refine K.KW.seq ?_
        refine K.KW.seq ?_
        -- region 7 law.go:50
        refine K.KW.region ?_
        refine K.RW.q rfl rfl (K.QR.k (v := .int .i64 0) (by kernel_rfl)) ?_
        refine K.RW.nil ?_
        refine K.thn_normal ?_
        refine K.KW.block ?_
        refine K.KW.loop (fun m F w25 => ∃ (i : Nat), m = xs.length - i ∧ K.Sl F [(0, .slice a xs.length cap), (1, .slice a' ys.length cap'), (5, .slice r12 (((between xs ys xs.length)).length) cc14), (6, .int .i64 0), (7, .int .i64 (((between xs ys i).length : Nat) : Int)), (8, .int .i64 ((i : Nat) : Int))] ∧ i ≤ xs.length ∧ K.Chg K.No w0 w25 ∧ K.Own w25 w0.heap.size 46 3 r12 (((between xs ys xs.length)).length) cc14 (((between xs ys xs.length)).flatMap chgC)) ((fun (i : Nat) => xs.length - i) 0) ?_ ?_
        · -- the loop begins
          exact ⟨0, rfl, ⟨by rfl, by rfl, by rfl, by rfl, by rfl, by rfl, trivial⟩, (by omega), c22, o24⟩
        · -- a round
          intro m27 F28 w25 hI
          obtain ⟨i, rfl, sl29, p31, c30, f32⟩ := hI
          rw [← K.Sl.puts sl29]; clear sl29
          have z33 := c30.size
          have hble := between_le xs ys i
          refine K.KW.seq ?_
          refine K.KW.seq ?_
          -- region 8 law.go:50
          refine K.KW.region ?_
          refine K.RW.q rfl rfl (K.QR.k (v := .int .i64 ((i : Nat) : Int)) (by kernel_rfl)) ?_
          refine K.RW.q rfl rfl (K.QR.k (v := .slice a xs.length cap) (by kernel_rfl)) ?_
          refine K.RW.q rfl rfl (K.QR.len (P := Try.prog) rfl rfl Try.underlying32) ?_
          by_cases h34 : (((i : Nat) : Int) : Int) < (((xs.length : Nat) : Int) : Int)
          ·  -- yes
            refine K.RW.q rfl rfl (K.QR.nice (v := .bool (decide ((((i : Nat) : Int) : Int) < (((xs.length : Nat) : Int) : Int)))) (by kernel_rfl) (congrArg Value.bool (decide_eq_true h34))) ?_
            refine K.RW.nil ?_
            refine K.thn_normal ?_
            refine K.KW.ifT rfl ?_
            refine K.KW.skip ?_
            refine K.thn_normal ?_
            refine K.KW.seq ?_
            refine K.KW.block ?_
            refine K.KW.seq ?_
            -- region 10 law.go:51
            refine K.KW.drawn (fun w => K.Chg K.No w0 w) (by kernel_rfl) ?_
            intro w35 e36 hs37
            have c39 := c30.no e36
            have z40 := c39.size
            have f41 := f32.no e36
            have hS38 : (fun w => K.Chg K.No w0 w) w35 := c39
            refine K.DW.q 0 (by kernel_rfl) rfl rfl (by kernel_rfl) rfl (fun w hS => K.QR.k (v := .slice a xs.length cap) (by kernel_rfl)) hS38 ?_
            refine K.DW.q 1 (by kernel_rfl) rfl rfl (by kernel_rfl) rfl (fun w hS => K.QR.k (v := .int .i64 ((i : Nat) : Int)) (by kernel_rfl)) hS38 ?_
            obtain ⟨b42, of43, rfl, _⟩ := hx.at_ (by omega)
            refine K.DW.q 2 (by kernel_rfl) rfl rfl (by kernel_rfl) rfl (fun w hS => K.QR.ix (of43 + i * 1) 1 rfl rfl rfl Try.underlying32 (by kernel_rfl) (by omega) (by simp)) hS38 ?_
            refine K.DW.q 3 (by kernel_rfl) rfl rfl (by kernel_rfl) rfl (fun w hS => K.QR.ld1 (v := .int .u64 (xs.getD i 0)) rfl rfl (by kernel_rfl) (hS.cell (hx.ld i (by omega) 0 _ rfl) id)) hS38 ?_
            refine K.DW.q 4 (by kernel_rfl) rfl rfl (by kernel_rfl) rfl (fun w hS => K.QR.k (v := .slice a' ys.length cap') (by kernel_rfl)) hS38 ?_
            refine K.DW.q 5 (by kernel_rfl) rfl rfl (by kernel_rfl) rfl (fun w hS => K.QR.k (v := .int .i64 ((i : Nat) : Int)) (by kernel_rfl)) hS38 ?_
            obtain ⟨b44, of45, rfl, _⟩ := hy.at_ (by omega)
            refine K.DW.q 6 (by kernel_rfl) rfl rfl (by kernel_rfl) rfl (fun w hS => K.QR.ix (of45 + i * 1) 1 rfl rfl rfl Try.underlying32 (by kernel_rfl) (by omega) (by simp)) hS38 ?_
            refine K.DW.q 7 (by kernel_rfl) rfl rfl (by kernel_rfl) rfl (fun w hS => K.QR.ld1 (v := .int .u64 (ys.getD i 0)) rfl rfl (by kernel_rfl) (hS.cell (hy.ld i (by omega) 0 _ rfl) id)) hS38 ?_
            by_cases h46 : (xs.getD i 0 : Int) = (ys.getD i 0 : Int)
            ·  -- yes
              refine K.DW.q 8 (by kernel_rfl) rfl rfl (by kernel_rfl) rfl (fun w hS => K.QR.nice (v := .bool ((xs.getD i 0 : Int) != (ys.getD i 0 : Int))) (by kernel_rfl) (congrArg Value.bool (bne_eq_false_iff_eq.2 h46))) hS38 ?_
              refine K.DW.done (by kernel_rfl) ?_
              refine K.thn_normal ?_
              refine K.KW.ifF rfl ?_
              refine K.KW.skip ?_
              refine K.blk_normal ?_
              refine K.thn_normal ?_
              -- region 9 law.go:50
              refine K.KW.region ?_
              refine K.RW.q rfl rfl (K.QR.k (v := .int .i64 ((i : Nat) : Int)) (by kernel_rfl)) ?_
              refine K.RW.q rfl rfl (K.QR.n64 ((((i : Nat) : Int) : Int) + (1 : Int)) ((i + 1 : Nat) : Int) (by kernel_rfl) (by omega)) ?_
              refine K.RW.q rfl rfl (K.QR.k (v := .int .i64 ((i + 1 : Nat) : Int)) (by kernel_rfl)) ?_
              refine K.RW.nil ?_
              refine K.thn_normal ?_
              refine ⟨_, ?_, i + 1, rfl, ⟨by rfl, by rfl, by rfl, by rfl, by first | (show Value.int .i64 _ = _; rw [between_ne (by assumption)]; simp; done) | (show Value.int .i64 _ = _; rw [between_eq (by assumption)]), by rfl, trivial⟩, (by omega), c39, f41⟩
              omega
            ·  -- no
              refine K.DW.q 8 (by kernel_rfl) rfl rfl (by kernel_rfl) rfl (fun w hS => K.QR.nice (v := .bool ((xs.getD i 0 : Int) != (ys.getD i 0 : Int))) (by kernel_rfl) (congrArg Value.bool (bne_iff_ne.2 h46))) hS38 ?_
              refine K.DW.done (by kernel_rfl) ?_
              refine K.thn_normal ?_
              refine K.KW.ifT rfl ?_
              refine K.KW.seq ?_
              refine K.KW.seq ?_
              -- region 11 law.go:52
              have hgt := (between_at_k (xs := xs) (ys := ys) (k := i) (N := xs.length) (by omega) (by assumption)).2
              have hmo := between_mono xs ys (k := i) (xs.length - i)
              obtain ⟨b47, rfl, gb49, gl50⟩ := f41.some_ (by omega)
              refine K.KW.drawn (fun w => K.Chg K.No w0 w ∧ K.Own w w0.heap.size 46 3 (some ⟨b47, 0, none⟩) (((between xs ys xs.length)).length) cc14 (((between xs ys xs.length)).flatMap chgC)) (by kernel_rfl) ?_
              intro w51 e52 hs53
              have c55 := c39.no e52
              have z56 := c55.size
              have f57 := f41.no e52
              have hS54 : (fun w => K.Chg K.No w0 w ∧ K.Own w w0.heap.size 46 3 (some ⟨b47, 0, none⟩) (((between xs ys xs.length)).length) cc14 (((between xs ys xs.length)).flatMap chgC)) w51 := ⟨c55, f57⟩
              refine K.DW.q 0 (by kernel_rfl) rfl rfl (by kernel_rfl) rfl (fun w hS => K.QR.k (v := .int .i64 (((between xs ys i).length : Nat) : Int)) (by kernel_rfl)) hS54 ?_
              refine K.DW.q 1 (by kernel_rfl) rfl rfl (by kernel_rfl) rfl (fun w hS => K.QR.k (v := .slice (some ⟨b47, 0, none⟩) (((between xs ys xs.length)).length) cc14) (by kernel_rfl)) hS54 ?_
              refine K.DW.q 2 (by kernel_rfl) rfl rfl (by kernel_rfl) rfl (fun w hS => K.QR.len (P := Try.prog) rfl rfl Try.underlying42) hS54 ?_
              refine K.DW.q 3 (by kernel_rfl) rfl rfl (by kernel_rfl) rfl (fun w hS => K.QR.nice (v := .bool (decide (((((between xs ys i).length : Nat) : Int) : Int) ≥ (((((between xs ys xs.length)).length : Nat) : Int) : Int)))) (by kernel_rfl) (congrArg Value.bool (decide_eq_false (by omega)))) hS54 ?_
              refine K.DW.q 4 (by kernel_rfl) rfl rfl (by kernel_rfl) rfl (fun w hS => K.QR.k (v := .bool false) (by kernel_rfl)) hS54 ?_
              refine K.DW.q 5 (by kernel_rfl) rfl rfl (by kernel_rfl) (by kernel_rfl) (fun w hS => K.QR.k (v := .slice (some ⟨b47, 0, none⟩) (((between xs ys xs.length)).length) cc14) (by kernel_rfl)) hS54 ?_
              refine K.DW.q 6 (by kernel_rfl) rfl rfl (by kernel_rfl) (by kernel_rfl) (fun w hS => K.QR.k (v := .int .i64 (((between xs ys i).length : Nat) : Int)) (by kernel_rfl)) hS54 ?_
              refine K.DW.q 7 (by kernel_rfl) rfl rfl (by kernel_rfl) (by kernel_rfl) (fun w hS => K.QR.ix (0 + ((between xs ys i).length) * 3) 3 rfl rfl rfl Try.underlying42 (by kernel_rfl) (by omega) (by simp)) hS54 ?_
              refine K.DW.q 8 (by kernel_rfl) rfl rfl (by kernel_rfl) (by kernel_rfl) (fun w hS => K.QR.ldN [.int .i64 (((between xs ys xs.length).getD ((between xs ys i).length) d3).at_), .int .u64 (((between xs ys xs.length).getD ((between xs ys i).length) d3).old), .int .u64 (((between xs ys xs.length).getD ((between xs ys i).length) d3).new)] rfl rfl (by kernel_rfl) (by kernel_rfl) (K.cells (K.cl ((K.Own.rowE d3 hS.2 rfl (fun _ => rfl)).ld ((between xs ys i).length) (by omega) 0 _ rfl) (K.cl ((K.Own.rowE d3 hS.2 rfl (fun _ => rfl)).ld ((between xs ys i).length) (by omega) 1 _ rfl) (K.cl ((K.Own.rowE d3 hS.2 rfl (fun _ => rfl)).ld ((between xs ys i).length) (by omega) 2 _ rfl) K.cl0))))) hS54 ?_
              refine K.DW.q 9 (by kernel_rfl) rfl rfl (by kernel_rfl) (by kernel_rfl) (fun w hS => K.QR.k (v := .int .i64 ((i : Nat) : Int)) (by kernel_rfl)) hS54 ?_
              refine K.DW.q 10 (by kernel_rfl) rfl rfl (by kernel_rfl) (by kernel_rfl) (fun w hS => K.QR.k (v := .slice (some ⟨b42, of43, none⟩) xs.length cap) (by kernel_rfl)) hS54 ?_
              refine K.DW.q 11 (by kernel_rfl) rfl rfl (by kernel_rfl) (by kernel_rfl) (fun w hS => K.QR.k (v := .int .i64 ((i : Nat) : Int)) (by kernel_rfl)) hS54 ?_
              refine K.DW.q 12 (by kernel_rfl) rfl rfl (by kernel_rfl) (by kernel_rfl) (fun w hS => K.QR.ix (of43 + i * 1) 1 rfl rfl rfl Try.underlying32 (by kernel_rfl) (by omega) (by simp)) hS54 ?_
              refine K.DW.q 13 (by kernel_rfl) rfl rfl (by kernel_rfl) (by kernel_rfl) (fun w hS => K.QR.ld1 (v := .int .u64 (xs.getD i 0)) rfl rfl (by kernel_rfl) (hS.1.cell (hx.ld i (by omega) 0 _ rfl) id)) hS54 ?_
              refine K.DW.q 14 (by kernel_rfl) rfl rfl (by kernel_rfl) (by kernel_rfl) (fun w hS => K.QR.k (v := .slice (some ⟨b44, of45, none⟩) ys.length cap') (by kernel_rfl)) hS54 ?_
              refine K.DW.q 15 (by kernel_rfl) rfl rfl (by kernel_rfl) (by kernel_rfl) (fun w hS => K.QR.k (v := .int .i64 ((i : Nat) : Int)) (by kernel_rfl)) hS54 ?_
              refine K.DW.q 16 (by kernel_rfl) rfl rfl (by kernel_rfl) (by kernel_rfl) (fun w hS => K.QR.ix (of45 + i * 1) 1 rfl rfl rfl Try.underlying32 (by kernel_rfl) (by omega) (by simp)) hS54 ?_
              refine K.DW.q 17 (by kernel_rfl) rfl rfl (by kernel_rfl) (by kernel_rfl) (fun w hS => K.QR.ld1 (v := .int .u64 (ys.getD i 0)) rfl rfl (by kernel_rfl) (hS.1.cell (hy.ld i (by omega) 0 _ rfl) id)) hS54 ?_
              refine K.DW.q 18 (by kernel_rfl) rfl rfl (by kernel_rfl) (by kernel_rfl) (fun w hS => K.QR.bd [(0, .int .i64 ((i : Nat) : Int)), (1, .int .u64 (xs.getD i 0)), (2, .int .u64 (ys.getD i 0))] [.int .i64 ((i : Nat) : Int), .int .u64 (xs.getD i 0), .int .u64 (ys.getD i 0)] rfl rfl (by kernel_rfl)) hS54 ?_
              refine K.DW.q 19 (by kernel_rfl) rfl rfl (by kernel_rfl) (by kernel_rfl) (fun w hS => K.QR.neS (by kernel_rfl) rfl rfl rfl (eqC_t (by rw [(between_at_k (k := i) (N := xs.length) (by omega) (by assumption)).1]; exact ⟨rfl, rfl, rfl⟩))) hS54 ?_
              refine K.DW.q 20 (by kernel_rfl) rfl rfl (by kernel_rfl) rfl (fun w hS => K.QR.k (v := .bool false) (by kernel_rfl)) hS54 ?_
              refine K.DW.done (by kernel_rfl) ?_
              refine K.thn_normal ?_
              refine K.KW.ifF rfl ?_
              refine K.KW.skip ?_
              refine K.thn_normal ?_
              -- region 13 law.go:55
              refine K.KW.region ?_
              refine K.RW.q rfl rfl (K.QR.k (v := .int .i64 (((between xs ys i).length : Nat) : Int)) (by kernel_rfl)) ?_
              refine K.RW.q rfl rfl (K.QR.n64 (((((between xs ys i).length : Nat) : Int) : Int) + (1 : Int)) (((between xs ys i).length + 1 : Nat) : Int) (by kernel_rfl) (by omega)) ?_
              refine K.RW.q rfl rfl (K.QR.k (v := .int .i64 (((between xs ys i).length + 1 : Nat) : Int)) (by kernel_rfl)) ?_
              refine K.RW.nil ?_
              refine K.blk_normal ?_
              refine K.thn_normal ?_
              -- region 9 law.go:50
              refine K.KW.region ?_
              refine K.RW.q rfl rfl (K.QR.k (v := .int .i64 ((i : Nat) : Int)) (by kernel_rfl)) ?_
              refine K.RW.q rfl rfl (K.QR.n64 ((((i : Nat) : Int) : Int) + (1 : Int)) ((i + 1 : Nat) : Int) (by kernel_rfl) (by omega)) ?_
              refine K.RW.q rfl rfl (K.QR.k (v := .int .i64 ((i + 1 : Nat) : Int)) (by kernel_rfl)) ?_
              refine K.RW.nil ?_
              refine K.thn_normal ?_
              refine ⟨_, ?_, i + 1, rfl, ⟨by rfl, by rfl, by rfl, by rfl, by first | (show Value.int .i64 _ = _; rw [between_ne (by assumption)]; simp; done) | (show Value.int .i64 _ = _; rw [between_eq (by assumption)]), by rfl, trivial⟩, (by omega), c55, f57⟩
              omega
          ·  -- no
            refine K.RW.q rfl rfl (K.QR.nice (v := .bool (decide ((((i : Nat) : Int) : Int) < (((xs.length : Nat) : Int) : Int)))) (by kernel_rfl) (congrArg Value.bool (decide_eq_false h34))) ?_
            refine K.RW.nil ?_
            refine K.thn_normal ?_
            refine K.KW.ifF rfl ?_
            refine K.KW.exit ?_
            refine K.thn_exit ?_
            refine K.thn_exit ?_
            refine K.blk_hit ?_
            refine K.thn_normal ?_
            refine K.KW.seq ?_
            -- region 14 law.go:58
            have hlen : (between xs ys i).length = (between xs ys xs.length).length := by rw [show i = xs.length by omega]
            refine K.KW.region ?_
            refine K.RW.q rfl rfl (K.QR.k (v := .slice a xs.length cap) (by kernel_rfl)) ?_
            refine K.RW.q rfl rfl (K.QR.k (v := .slice r12 (((between xs ys xs.length)).length) cc14) (by kernel_rfl)) ?_
            refine K.RW.l rfl (K.OW.call rfl [.slice a xs.length cap, .slice r12 (((between xs ys xs.length)).length) cc14] rfl rfl (by kernel_rfl) (apply_ok _ _ _ _ xs (between xs ys xs.length) _ (by first | omega | (simp; omega) | (simp; done)) (by first | omega | (simp; omega) | (simp; done)) (hx.no c30) (K.Own.rowE d3 f32 rfl (fun _ => rfl))) ?_) 
            rintro v66 w64 ⟨r58, m59, cc60, hv65, c61, o62, rfl⟩
            have e67 : (apply xs (between xs ys xs.length)) = ((0 : Int), ys) := apply_between (by omega)
            simp only [e67] at hv65 o62
            subst hv65
            have c68 := c30.no c61
            have z69 := c68.size
            have f70 := f32.no c61
            have o71 := K.Own.mono (base' := w0.heap.size) o62 (by omega)
            refine K.RW.q rfl rfl (K.QR.k (v := .tuple #[.slice r58 ((ys).length) cc60, .int .i64 0]) (by kernel_rfl)) ?_
            refine K.RW.q rfl rfl (K.QR.k (v := .slice r58 ((ys).length) cc60) (by kernel_rfl)) ?_
            refine K.RW.q rfl rfl (K.QR.k (v := .int .i64 0) (by kernel_rfl)) ?_
            refine K.RW.q rfl rfl (K.QR.k (v := .slice r58 ((ys).length) cc60) (by kernel_rfl)) ?_
            refine K.RW.q rfl rfl (K.QR.k (v := .int .i64 0) (by kernel_rfl)) ?_
            refine K.RW.nil ?_
            refine K.thn_normal ?_
            refine K.KW.seq ?_
            -- region 15 law.go:59
            refine K.KW.region ?_
            refine K.RW.q rfl rfl (K.QR.k (v := .slice a' ys.length cap') (by kernel_rfl)) ?_
            refine K.RW.q rfl rfl (K.QR.k (v := .slice r12 (((between xs ys xs.length)).length) cc14) (by kernel_rfl)) ?_
            refine K.RW.l rfl (K.OW.call rfl [.slice r12 (((between xs ys xs.length)).length) cc14] rfl rfl (by kernel_rfl) (back_ok _ _ (between xs ys xs.length) _ (by first | omega | (simp; omega) | (simp; done)) (K.Own.rowE d3 f70 rfl (fun _ => rfl))) ?_) 
            rintro _ w78 ⟨r72, m73, cc74, rfl, c75, o76, rfl⟩
            have c79 := c68.no c75
            have z80 := c79.size
            have f81 := f70.no c75
            have f82 := o71.no c75
            have o83 := K.Own.mono (base' := w0.heap.size) o76 (by omega)
            refine K.RW.l rfl (K.OW.call rfl [.slice a' ys.length cap', .slice r72 (((between xs ys xs.length).map back1).length) cc74] rfl rfl (by kernel_rfl) (apply_ok _ _ _ _ ys ((between xs ys xs.length).map back1) _ (by first | omega | (simp; omega) | (simp; done)) (by first | omega | (simp; omega) | (simp; done)) (hy.no c79) (K.Own.rowE d3 o83 rfl (fun _ => rfl))) ?_) 
            rintro v92 w90 ⟨r84, m85, cc86, hv91, c87, o88, rfl⟩
            have e93 : (apply ys ((between xs ys xs.length).map back1)) = ((0 : Int), xs) := apply_back (by omega)
            simp only [e93] at hv91 o88
            subst hv91
            have c94 := c79.no c87
            have z95 := c94.size
            have f96 := f81.no c87
            have f97 := f82.no c87
            have f98 := o83.no c87
            have o99 := K.Own.mono (base' := w0.heap.size) o88 (by omega)
            refine K.RW.q rfl rfl (K.QR.k (v := .tuple #[.slice r84 ((xs).length) cc86, .int .i64 0]) (by kernel_rfl)) ?_
            refine K.RW.q rfl rfl (K.QR.k (v := .slice r84 ((xs).length) cc86) (by kernel_rfl)) ?_
            refine K.RW.q rfl rfl (K.QR.k (v := .int .i64 0) (by kernel_rfl)) ?_
            refine K.RW.q rfl rfl (K.QR.k (v := .slice r84 ((xs).length) cc86) (by kernel_rfl)) ?_
            refine K.RW.q rfl rfl (K.QR.k (v := .int .i64 0) (by kernel_rfl)) ?_
            refine K.RW.nil ?_
            refine K.thn_normal ?_
            refine K.KW.seq ?_
            -- region 16 law.go:60
            refine K.KW.region ?_
            refine K.RW.l rfl (K.OW.call rfl [] rfl rfl (by kernel_rfl) (awake34_ok _) ?_) 
            rintro _ w101 ⟨rfl, c100⟩
            have c102 := c94.no c100
            have z103 := c102.size
            have f104 := f96.no c100
            have f105 := f97.no c100
            have f106 := f98.no c100
            have f107 := o99.no c100
            refine K.RW.q rfl rfl (K.QR.k (v := .bool true) (by kernel_rfl)) ?_
            refine K.RW.q rfl (by kernel_rfl) (K.QR.k (v := .int .i64 0) (by kernel_rfl)) ?_
            refine K.RW.q rfl (by kernel_rfl) (K.QR.k (v := .bool true) (by kernel_rfl)) ?_
            refine K.RW.q rfl rfl (K.QR.k (v := .bool true) (by kernel_rfl)) ?_
            refine K.RW.q rfl rfl (K.QR.k (v := .bool true) (by kernel_rfl)) ?_
            refine K.RW.q rfl (by kernel_rfl) (K.QR.k (v := .int .i64 (((between xs ys i).length : Nat) : Int)) (by kernel_rfl)) ?_
            refine K.RW.q rfl (by kernel_rfl) (K.QR.k (v := .slice r12 (((between xs ys xs.length)).length) cc14) (by kernel_rfl)) ?_
            refine K.RW.q rfl (by kernel_rfl) (K.QR.len (P := Try.prog) rfl rfl Try.underlying42) ?_
            refine K.RW.q rfl (by kernel_rfl) (K.QR.nice (v := .bool (((((between xs ys i).length : Nat) : Int) : Int) == (((((between xs ys xs.length)).length : Nat) : Int) : Int))) (by kernel_rfl) (congrArg Value.bool (beq_iff_eq.2 (by omega)))) ?_
            refine K.RW.q rfl rfl (K.QR.k (v := .bool true) (by kernel_rfl)) ?_
            refine K.RW.q rfl rfl (K.QR.k (v := .bool true) (by kernel_rfl)) ?_
            refine K.RW.q rfl (by kernel_rfl) (K.QR.k (v := .slice r12 (((between xs ys xs.length)).length) cc14) (by kernel_rfl)) ?_
            refine K.RW.l (by kernel_rfl) (K.OW.call rfl [.slice r12 (((between xs ys xs.length)).length) cc14] rfl rfl (by kernel_rfl) (right_ok _ _ (between xs ys xs.length) _ (by first | omega | (simp; omega) | simp) (K.Own.rowE d3 f104 rfl (fun _ => rfl))) ?_) 
            rintro v111 w109 ⟨hv110, c108⟩
            have c112 := c102.no c108
            have z113 := c112.size
            have f114 := f104.no c108
            have f115 := f105.no c108
            have f116 := f106.no c108
            have f117 := f107.no c108
            have hb118 : right (between xs ys xs.length) = true := (right_of (right_between xs ys _))
            rw [hb118] at hv110; subst hv110
            refine K.RW.q rfl rfl (K.QR.k (v := .bool true) (by kernel_rfl)) ?_
            refine K.RW.q rfl rfl (K.QR.k (v := .bool true) (by kernel_rfl)) ?_
            refine K.RW.q rfl (by kernel_rfl) (K.QR.k (v := .int .i64 0) (by kernel_rfl)) ?_
            refine K.RW.q rfl (by kernel_rfl) (K.QR.k (v := .bool true) (by kernel_rfl)) ?_
            refine K.RW.q rfl rfl (K.QR.k (v := .bool true) (by kernel_rfl)) ?_
            refine K.RW.q rfl rfl (K.QR.k (v := .bool true) (by kernel_rfl)) ?_
            refine K.RW.q rfl (by kernel_rfl) (K.QR.k (v := .int .i64 0) (by kernel_rfl)) ?_
            refine K.RW.q rfl (by kernel_rfl) (K.QR.k (v := .bool true) (by kernel_rfl)) ?_
            refine K.RW.q rfl rfl (K.QR.k (v := .bool true) (by kernel_rfl)) ?_
            refine K.RW.q rfl rfl (K.QR.k (v := .bool true) (by kernel_rfl)) ?_
            refine K.RW.q rfl (by kernel_rfl) (K.QR.k (v := .slice r58 ((ys).length) cc60) (by kernel_rfl)) ?_
            refine K.RW.q rfl (by kernel_rfl) (K.QR.k (v := .slice a' ys.length cap') (by kernel_rfl)) ?_
            refine K.RW.l (by kernel_rfl) (K.OW.call rfl [.slice r58 ((ys).length) cc60, .slice a' ys.length cap'] rfl rfl (by kernel_rfl) (same_ok _ _ _ _ ys ys _ (by first | omega | (simp; omega) | simp) (K.Own.rowE 0 f115 rfl (fun _ => rfl)) (hy.no c112)) ?_) 
            rintro v122 w120 ⟨hv121, c119⟩
            have c123 := c112.no c119
            have z124 := c123.size
            have f125 := f114.no c119
            have f126 := f115.no c119
            have f127 := f116.no c119
            have f128 := f117.no c119
            have hb129 : sameB ys ys = true := (decide_eq_true rfl)
            rw [hb129] at hv121; subst hv121
            refine K.RW.q rfl rfl (K.QR.k (v := .bool true) (by kernel_rfl)) ?_
            refine K.RW.q rfl rfl (K.QR.k (v := .bool true) (by kernel_rfl)) ?_
            refine K.RW.q rfl (by kernel_rfl) (K.QR.k (v := .slice r84 ((xs).length) cc86) (by kernel_rfl)) ?_
            refine K.RW.q rfl (by kernel_rfl) (K.QR.k (v := .slice a xs.length cap) (by kernel_rfl)) ?_
            refine K.RW.l (by kernel_rfl) (K.OW.call rfl [.slice r84 ((xs).length) cc86, .slice a xs.length cap] rfl rfl (by kernel_rfl) (same_ok _ _ _ _ xs xs _ (by first | omega | (simp; omega) | simp) (K.Own.rowE 0 f128 rfl (fun _ => rfl)) (hx.no c123)) ?_) 
            rintro v133 w131 ⟨hv132, c130⟩
            have c134 := c123.no c130
            have z135 := c134.size
            have f136 := f125.no c130
            have f137 := f126.no c130
            have f138 := f127.no c130
            have f139 := f128.no c130
            have hb140 : sameB xs xs = true := (decide_eq_true rfl)
            rw [hb140] at hv132; subst hv132
            refine K.RW.q rfl rfl (K.QR.k (v := .bool true) (by kernel_rfl)) ?_
            refine K.RW.q rfl rfl (K.QR.k (v := .bool true) (by kernel_rfl)) ?_
            refine K.RW.nil ?_
            refine K.thn_normal ?_
            refine K.KW.ret ?_
            refine ⟨.inr rfl, (.bool true), K.res1 rfl rfl, ?_⟩
            exact ⟨rfl, c134⟩
      ·  -- no
        -- region 3 law.go:45
        refine K.KW.region ?_
        refine K.RW.q rfl rfl (K.QR.k (v := .slice a xs.length cap) (by kernel_rfl)) ?_
        refine K.RW.q rfl rfl (K.QR.k (v := .slice a' ys.length cap') (by kernel_rfl)) ?_
        refine K.RW.l rfl (K.OW.call rfl [.slice a xs.length cap, .slice a' ys.length cap'] rfl rfl (by kernel_rfl) (between_ok _ _ _ _ xs ys _ (by first | omega | (simp; omega) | (simp; done)) (by first | omega | (simp; omega) | (simp; done)) hx hy) ?_) 
        rintro v149 w147 ⟨r141, m142, cc143, hv148, c144, o145, l146⟩
        have e150 : (betweenR xs ys) = ((3 : Int), ([] : List Chg3)) := betweenR_3 (by omega)
        simp only [e150] at hv148 o145 l146
        obtain rfl : 0 = m142 := l146
        subst hv148
        have c151 := c144
        have z152 := c151.size
        have o153 := K.Own.mono (base' := w0.heap.size) o145 (by omega)
        refine K.RW.q rfl rfl (K.QR.k (v := .tuple #[.slice r141 0 cc143, .int .i64 3]) (by kernel_rfl)) ?_
        refine K.RW.q rfl rfl (K.QR.k (v := .slice r141 0 cc143) (by kernel_rfl)) ?_
        refine K.RW.q rfl rfl (K.QR.k (v := .int .i64 3) (by kernel_rfl)) ?_
        refine K.RW.q rfl rfl (K.QR.k (v := .slice r141 0 cc143) (by kernel_rfl)) ?_
        refine K.RW.q rfl rfl (K.QR.k (v := .int .i64 3) (by kernel_rfl)) ?_
        refine K.RW.nil ?_
        refine K.thn_normal ?_
        refine K.KW.seq ?_
        refine K.KW.seq ?_
        -- region 4 law.go:46
        refine K.KW.region ?_
        refine K.RW.q rfl rfl (K.QR.k (v := .slice a xs.length cap) (by kernel_rfl)) ?_
        refine K.RW.q rfl rfl (K.QR.len (P := Try.prog) rfl rfl Try.underlying32) ?_
        refine K.RW.q rfl rfl (K.QR.k (v := .slice a' ys.length cap') (by kernel_rfl)) ?_
        refine K.RW.q rfl rfl (K.QR.len (P := Try.prog) rfl rfl Try.underlying32) ?_
        refine K.RW.q rfl rfl (K.QR.nice (v := .bool ((((xs.length : Nat) : Int) : Int) != (((ys.length : Nat) : Int) : Int))) (by kernel_rfl) (congrArg Value.bool (bne_iff_ne.2 (by omega)))) ?_
        refine K.RW.nil ?_
        refine K.thn_normal ?_
        refine K.KW.ifT rfl ?_
        refine K.KW.seq ?_
        -- region 5 law.go:47
        refine K.KW.region ?_
        refine K.RW.l rfl (K.OW.call rfl [] rfl rfl (by kernel_rfl) (awake34_ok _) ?_) 
        rintro _ w155 ⟨rfl, c154⟩
        have c156 := c151.no c154
        have z157 := c156.size
        have f158 := o153.no c154
        refine K.RW.q rfl rfl (K.QR.k (v := .bool true) (by kernel_rfl)) ?_
        refine K.RW.q rfl (by kernel_rfl) (K.QR.k (v := .int .i64 3) (by kernel_rfl)) ?_
        refine K.RW.q rfl (by kernel_rfl) (K.QR.k (v := .bool true) (by kernel_rfl)) ?_
        refine K.RW.q rfl rfl (K.QR.k (v := .bool true) (by kernel_rfl)) ?_
        refine K.RW.q rfl rfl (K.QR.k (v := .bool true) (by kernel_rfl)) ?_
        refine K.RW.q rfl (by kernel_rfl) (K.QR.k (v := .slice r141 0 cc143) (by kernel_rfl)) ?_
        refine K.RW.q rfl (by kernel_rfl) (K.QR.len (P := Try.prog) rfl rfl Try.underlying42) ?_
        refine K.RW.q rfl (by kernel_rfl) (K.QR.k (v := .bool true) (by kernel_rfl)) ?_
        refine K.RW.q rfl rfl (K.QR.k (v := .bool true) (by kernel_rfl)) ?_
        refine K.RW.q rfl rfl (K.QR.k (v := .bool true) (by kernel_rfl)) ?_
        refine K.RW.nil ?_
        refine K.thn_normal ?_
        refine K.KW.ret ?_
        refine K.thn_ret ?_
        refine ⟨.inr rfl, (.bool true), K.res1 rfl rfl, ?_⟩
        exact ⟨rfl, c156⟩

end Go.Proofs.Ytcmlompigmhddaa
