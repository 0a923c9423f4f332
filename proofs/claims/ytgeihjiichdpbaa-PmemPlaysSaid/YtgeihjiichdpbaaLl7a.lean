/- PmemPlays. -/
import Derived.Test.YtgeihjiichdpbaaLl7
namespace Go.Proofs.Ytgeihjiichdpbaa
open Go.RowKit
set_option linter.unusedVariables false
attribute [local irreducible] K.KW K.RW K.DW K.OW K.QR K.KC

set_option maxHeartbeats 1000000 in
set_option maxRecDepth 100000 in
theorem l7plays_ok (w0 : World) (a b : Option Addr) (cap cap2 : Nat) (xs : List Int) (ls : List ActP) (hg : ∀ j, j < ls.length → (ls.getD j ap0).good) (hm : xs.length ≤ 9223372036854775807) (hm2 : ls.length ≤ 9223372036854775807) (hc : xs.length ≤ cap) (hx : RU64 w0 a xs) (hy : K.RowE w0 b ls.length 5 (fun i => cActP (ls.getD i ap0))) (k : Int) (hk : isInt k) :
    K.GC Try.prog w0 13 #[.slice a xs.length cap, .int .i64 k, .slice b ls.length cap2] [] (fun v post => v = .bool true) := by
  refine K.GC.mk (n := 72) Try.func13 rfl rfl [.slice a xs.length cap, .int .i64 k, .slice b ls.length cap2] rfl rfl ?_
  intro fr w hS
  replace hS : K.Sat w0 [fr] w := hS
  refine K.KW.seq ?_
  -- 0 :88
  refine K.KW.region ?_
  refine K.RW.qs [.bool false] (by kernel_rfl) ?_
  refine K.RW.nil ?_
  refine K.thn_normal ?_
  refine K.KW.seq ?_
  refine K.KW.seq ?_
  -- 1 :89
  refine K.KW.region ?_
  refine K.RW.qs [.slice a xs.length cap] (by kernel_rfl) ?_
  refine K.RW.q rfl rfl (K.QR.len (P := Try.prog) rfl rfl Try.underlying22) ?_
  by_cases h_1 : (((xs.length : Nat) : Int) : Int) > (60 : Int)
  ·  -- yes
    refine K.RW.q rfl rfl (K.QR.nice (v := .bool (decide ((((xs.length : Nat) : Int) : Int) > (60 : Int)))) (by kernel_rfl) (congrArg Value.bool (decide_eq_true h_1))) ?_
    refine K.RW.qs [.bool true] (by kernel_rfl) ?_
    refine K.RW.skip rfl (by kernel_rfl) ?_
    refine K.RW.skip rfl (by kernel_rfl) ?_
    refine K.RW.skip rfl (by kernel_rfl) ?_
    refine K.RW.qs [.bool true] (by kernel_rfl) ?_
    refine K.RW.nil ?_
    refine K.thn_normal ?_
    refine K.KW.ifT rfl ?_
    refine K.KW.seq ?_
    -- 2 :90
    refine K.KW.region ?_
    refine K.RW.l rfl (K.OW.gcall hS [] [0] [] (awake07_ok _) ?_)
    clear hS; rintro _ _ w ⟨rfl, rfl⟩ hS
    replace hS : K.Sat w0 [fr] w := hS
    refine K.RW.qs [.bool true] (by kernel_rfl) ?_
    refine K.RW.nil ?_
    refine K.thn_normal ?_
    refine K.KW.ret ?_
    refine K.thn_ret ?_
    refine ⟨.inr rfl, rfl, (.bool true), K.res1 rfl rfl, [], ?_, hS.pick [0]⟩
    exact rfl
  ·  -- no
    refine K.RW.q rfl rfl (K.QR.nice (v := .bool (decide ((((xs.length : Nat) : Int) : Int) > (60 : Int)))) (by kernel_rfl) (congrArg Value.bool (decide_eq_false h_1))) ?_
    refine K.RW.qs [.bool false, .slice b ls.length cap2] (by kernel_rfl) ?_
    refine K.RW.q rfl (by kernel_rfl) (K.QR.len (P := Try.prog) rfl rfl Try.underlying96) ?_
    by_cases h_2 : (((ls.length : Nat) : Int) : Int) > (60 : Int)
    ·  -- yes
      refine K.RW.q rfl (by kernel_rfl) (K.QR.nice (v := .bool (decide ((((ls.length : Nat) : Int) : Int) > (60 : Int)))) (by kernel_rfl) (congrArg Value.bool (decide_eq_true h_2))) ?_
      refine K.RW.qs [.bool true] (by kernel_rfl) ?_
      refine K.RW.nil ?_
      refine K.thn_normal ?_
      refine K.KW.ifT rfl ?_
      refine K.KW.seq ?_
      -- 2 :90
      refine K.KW.region ?_
      refine K.RW.l rfl (K.OW.gcall hS [] [0] [] (awake07_ok _) ?_)
      clear hS; rintro _ _ w ⟨rfl, rfl⟩ hS
      replace hS : K.Sat w0 [fr] w := hS
      refine K.RW.qs [.bool true] (by kernel_rfl) ?_
      refine K.RW.nil ?_
      refine K.thn_normal ?_
      refine K.KW.ret ?_
      refine K.thn_ret ?_
      refine ⟨.inr rfl, rfl, (.bool true), K.res1 rfl rfl, [], ?_, hS.pick [0]⟩
      exact rfl
    ·  -- no
      refine K.RW.q rfl (by kernel_rfl) (K.QR.nice (v := .bool (decide ((((ls.length : Nat) : Int) : Int) > (60 : Int)))) (by kernel_rfl) (congrArg Value.bool (decide_eq_false h_2))) ?_
      refine K.RW.qs [.bool false] (by kernel_rfl) ?_
      refine K.RW.nil ?_
      refine K.thn_normal ?_
      refine K.KW.ifF rfl ?_
      refine K.KW.skip ?_
      refine K.thn_normal ?_
      refine K.KW.seq ?_
      -- 3 :92
      refine K.KW.region ?_
      refine K.RW.qs [.slice a xs.length cap, .int .i64 k] (by kernel_rfl) ?_
      refine K.RW.l rfl (K.OW.gcall hS [] [0] [.slice a xs.length cap, .int .i64 k] (both7_ok _ _ _ xs k (by omega) (by omega) (by omega) hx) ?_)
      clear hS; rintro _ _ w (⟨p_3, r_4, q_5, u_6, n_7, l_8, m_9, rfl, rfl, x_10, y_11, hn_12, hn2_13, h_14, hk_15⟩ | ⟨rfl, rfl, h_16⟩) hS
      ·
        replace hS : K.Sat w0 [l_8, m_9, fr] w := hS
        refine K.RW.qs [.tuple #[.pointer (some ⟨p_3, 0, none⟩), .pointer (some ⟨r_4, 0, none⟩), .bool true], .pointer (some ⟨p_3, 0, none⟩), .pointer (some ⟨r_4, 0, none⟩), .bool true, .pointer (some ⟨p_3, 0, none⟩), .pointer (some ⟨r_4, 0, none⟩), .bool true] (by kernel_rfl) ?_
        refine K.RW.nil ?_
        refine K.thn_normal ?_
        refine K.KW.seq ?_
        refine K.KW.seq ?_
        -- 4 :93
        refine K.KW.region ?_
        refine K.RW.qs [.bool true, .bool false] (by kernel_rfl) ?_
        refine K.RW.nil ?_
        refine K.thn_normal ?_
        refine K.KW.ifF rfl ?_
        refine K.KW.skip ?_
        refine K.thn_normal ?_
        refine K.KW.seq ?_
        refine K.KW.seq ?_
        -- 6 :96
        refine K.KW.region ?_
        refine K.RW.qs [.int .i64 0] (by kernel_rfl) ?_
        refine K.RW.nil ?_
        refine K.thn_normal ?_
        refine K.KW.block ?_
        refine K.KW.loop (fun m_ F_ w_ => ∃ (j : Nat) (l1 : K.Cs) (m1 : K.Cs), m_ = ls.length - j ∧ K.Sl F_ [(0, .slice a xs.length cap), (1, .int .i64 k), (2, .slice b ls.length cap2), (7, .pointer (some ⟨p_3, 0, none⟩)), (8, .pointer (some ⟨r_4, 0, none⟩)), (10, .int .i64 ((j : Nat) : Int)), (72, undef)] ∧ j ≤ ls.length ∧ MemAt l1 p_3 q_5 n_7 3 (acts7 (MemM.of (DevM.fresh xs n_7 3) k.toNat) n_7 3 (ls.take j)) ∧ RMemAt m1 r_4 u_6 n_7 3 (acts7 (MemM.of (DevM.fresh xs n_7 3) k.toNat) n_7 3 (ls.take j)) ∧ K.Sat w0 [l1, m1, fr] w_) ((fun (j : Nat) => ls.length - j) 0) ?_ ?_
        · -- begins
          exact ⟨0, l_8, m_9, rfl, ⟨by rfl, by rfl, by rfl, by rfl, by rfl, by rfl, by rfl, trivial⟩, (by omega), x_10, y_11, hS.pick [0, 1, 2]⟩
        · -- a round
          clear hS
          intro m_17 F_18 w hI
          obtain ⟨j, l1, m1, rfl, sl_19, p_20, x_21, x_22, hS⟩ := hI
          rw [← K.Sl.puts sl_19]; clear sl_19
          refine K.KW.seq ?_
          refine K.KW.seq ?_
          -- 7 :96
          refine K.KW.region ?_
          refine K.RW.qs [.int .i64 ((j : Nat) : Int), .slice b ls.length cap2] (by kernel_rfl) ?_
          refine K.RW.q rfl rfl (K.QR.len (P := Try.prog) rfl rfl Try.underlying96) ?_
          by_cases h_23 : (((j : Nat) : Int) : Int) < (((ls.length : Nat) : Int) : Int)
          ·  -- yes
            refine K.RW.q rfl rfl (K.QR.nice (v := .bool (decide ((((j : Nat) : Int) : Int) < (((ls.length : Nat) : Int) : Int)))) (by kernel_rfl) (congrArg Value.bool (decide_eq_true h_23))) ?_
            refine K.RW.nil ?_
            refine K.thn_normal ?_
            refine K.KW.ifT rfl ?_
            refine K.KW.skip ?_
            refine K.thn_normal ?_
            refine K.KW.seq ?_
            refine K.KW.block ?_
            refine K.KW.seq ?_
            -- 9 :97
            obtain ⟨b_24, of_25, rfl, _⟩ := hy.at_ (by omega)
            refine K.KW.region ?_
            refine K.RW.qs [.pointer (some ⟨p_3, 0, none⟩), .slice (some ⟨b_24, of_25, none⟩) ls.length cap2, .int .i64 ((j : Nat) : Int)] (by kernel_rfl) ?_
            refine K.RW.q rfl rfl (K.QR.ix (of_25 + j * 5) 5 rfl rfl rfl Try.underlying96 (by kernel_rfl) (by omega) (by first | (simp; done) | omega | (simp; omega))) ?_
            refine K.RW.q rfl rfl (K.QR.ldN [.int .i64 ((ls.getD j ap0).kind), .int .i64 ((ls.getD j ap0).thread), .int .i64 ((ls.getD j ap0).at_), .int .u64 ((ls.getD j ap0).old), .int .u64 ((ls.getD j ap0).w)] rfl rfl (by kernel_rfl) (by kernel_rfl) (K.cells (K.cl ((hy.no hS.chg).ld j (by omega) 0 _ rfl) (K.cl ((hy.no hS.chg).ld j (by omega) 1 _ rfl) (K.cl ((hy.no hS.chg).ld j (by omega) 2 _ rfl) (K.cl ((hy.no hS.chg).ld j (by omega) 3 _ rfl) (K.cl ((hy.no hS.chg).ld j (by omega) 4 _ rfl) K.cl0))))))) ?_
            refine K.RW.l rfl (K.OW.gcall hS [0] [1, 2] [.pointer (some ⟨p_3, 0, none⟩), .agg #[.int .i64 ((ls.getD j ap0).kind), .int .i64 ((ls.getD j ap0).thread), .int .i64 ((ls.getD j ap0).at_), .int .u64 ((ls.getD j ap0).old), .int .u64 ((ls.getD j ap0).w)]] (do7_ok _ _ _ _ _ _ _ x_21 (ls.getD j ap0) (hg j (by omega))) ?_)
            clear hS; rintro _ _ w ⟨l_26, rfl, rfl, x_27⟩ hS
            replace hS : K.Sat w0 [l_26, m1, fr] w := hS
            refine K.RW.nil ?_
            refine K.thn_normal ?_
            refine K.KW.seq ?_
            -- 10 :98
            refine K.KW.region ?_
            refine K.RW.qs [.pointer (some ⟨r_4, 0, none⟩), .slice (some ⟨b_24, of_25, none⟩) ls.length cap2, .int .i64 ((j : Nat) : Int)] (by kernel_rfl) ?_
            refine K.RW.q rfl rfl (K.QR.ix (of_25 + j * 5) 5 rfl rfl rfl Try.underlying96 (by kernel_rfl) (by omega) (by first | (simp; done) | omega | (simp; omega))) ?_
            refine K.RW.q rfl rfl (K.QR.ldN [.int .i64 ((ls.getD j ap0).kind), .int .i64 ((ls.getD j ap0).thread), .int .i64 ((ls.getD j ap0).at_), .int .u64 ((ls.getD j ap0).old), .int .u64 ((ls.getD j ap0).w)] rfl rfl (by kernel_rfl) (by kernel_rfl) (K.cells (K.cl ((hy.no hS.chg).ld j (by omega) 0 _ rfl) (K.cl ((hy.no hS.chg).ld j (by omega) 1 _ rfl) (K.cl ((hy.no hS.chg).ld j (by omega) 2 _ rfl) (K.cl ((hy.no hS.chg).ld j (by omega) 3 _ rfl) (K.cl ((hy.no hS.chg).ld j (by omega) 4 _ rfl) K.cl0))))))) ?_
            refine K.RW.l rfl (K.OW.gcall hS [1] [0, 2] [.pointer (some ⟨r_4, 0, none⟩), .agg #[.int .i64 ((ls.getD j ap0).kind), .int .i64 ((ls.getD j ap0).thread), .int .i64 ((ls.getD j ap0).at_), .int .u64 ((ls.getD j ap0).old), .int .u64 ((ls.getD j ap0).w)]] (must7_ok _ _ _ _ _ _ _ x_22 (ls.getD j ap0) (hg j (by omega))) ?_)
            clear hS; rintro _ _ w ⟨l_28, rfl, rfl, x_29⟩ hS
            replace hS : K.Sat w0 [l_28, l_26, fr] w := hS
            refine K.RW.nil ?_
            refine K.thn_normal ?_
            refine K.KW.seq ?_
            -- 11 :99
            refine K.KW.region ?_
            refine K.RW.qs [.pointer (some ⟨p_3, 0, none⟩), .pointer (some ⟨r_4, 0, none⟩)] (by kernel_rfl) ?_
            refine K.RW.l rfl (K.OW.gcall hS [1, 0] [2] [.pointer (some ⟨p_3, 0, none⟩), .pointer (some ⟨r_4, 0, none⟩)] (same7_ok _ _ _ _ _ _ _ _ _ _ x_27 x_29) ?_)
            clear hS; rintro _ _ w ⟨rfl, rfl⟩ hS
            replace hS : K.Sat w0 [l_26, l_28, fr] w := hS
            refine K.RW.qs [.bool false] (by kernel_rfl) ?_
            refine K.RW.nil ?_
            refine K.thn_normal ?_
            refine K.KW.ifF rfl ?_
            refine K.KW.skip ?_
            refine K.blk_normal ?_
            refine K.thn_normal ?_
            -- 8 :96
            refine K.KW.region ?_
            refine K.RW.qs [.int .i64 ((j : Nat) : Int)] (by kernel_rfl) ?_
            refine K.RW.q rfl rfl (K.QR.n64 ((((j : Nat) : Int) : Int) + (1 : Int)) ((j + 1 : Nat) : Int) (by kernel_rfl) (by omega)) ?_
            refine K.RW.qs [.int .i64 ((j + 1 : Nat) : Int)] (by kernel_rfl) ?_
            refine K.RW.nil ?_
            refine K.thn_normal ?_
            refine ⟨_, ?_, j + 1, l_26, l_28, rfl, ⟨by rfl, by rfl, by rfl, by rfl, by rfl, by rfl, by rfl, trivial⟩, (by omega), (by rw [acts7_next (by omega)]; exact x_27), (by rw [acts7_next (by omega)]; exact x_29), hS.pick [0, 1, 2]⟩
            omega
          ·  -- no
            refine K.RW.q rfl rfl (K.QR.nice (v := .bool (decide ((((j : Nat) : Int) : Int) < (((ls.length : Nat) : Int) : Int)))) (by kernel_rfl) (congrArg Value.bool (decide_eq_false h_23))) ?_
            refine K.RW.nil ?_
            refine K.thn_normal ?_
            refine K.KW.ifF rfl ?_
            refine K.KW.exit ?_
            refine K.thn_exit ?_
            refine K.thn_exit ?_
            refine K.blk_hit ?_
            refine K.thn_normal ?_
            refine K.KW.seq ?_
            -- 13 :103
            refine K.KW.region ?_
            refine K.RW.l rfl (K.OW.gcall hS [] [0, 1, 2] [] (awake07_ok _) ?_)
            clear hS; rintro _ _ w ⟨rfl, rfl⟩ hS
            replace hS : K.Sat w0 [l1, m1, fr] w := hS
            refine K.RW.qs [.bool true, .pointer (some ⟨p_3, 0, none⟩), .pointer (some ⟨r_4, 0, none⟩)] (by kernel_rfl) ?_
            refine K.RW.l (by kernel_rfl) (K.OW.gcall hS [0, 1] [2] [.pointer (some ⟨p_3, 0, none⟩), .pointer (some ⟨r_4, 0, none⟩)] (same7_ok _ _ _ _ _ _ _ _ _ _ x_21 x_22) ?_)
            clear hS; rintro _ _ w ⟨rfl, rfl⟩ hS
            replace hS : K.Sat w0 [l1, m1, fr] w := hS
            refine K.RW.qs [.bool true, .bool true] (by kernel_rfl) ?_
            refine K.RW.nil ?_
            refine K.thn_normal ?_
            refine K.KW.ret ?_
            refine ⟨.inr rfl, rfl, (.bool true), K.res1 rfl rfl, [], ?_, hS.pick [2]⟩
            exact rfl
      ·
        replace hS : K.Sat w0 [fr] w := hS
        refine K.RW.qs [.tuple #[.pointer none, .pointer none, .bool false], .pointer none, .pointer none, .bool false, .pointer none, .pointer none, .bool false] (by kernel_rfl) ?_
        refine K.RW.nil ?_
        refine K.thn_normal ?_
        refine K.KW.seq ?_
        refine K.KW.seq ?_
        -- 4 :93
        refine K.KW.region ?_
        refine K.RW.qs [.bool false, .bool true] (by kernel_rfl) ?_
        refine K.RW.nil ?_
        refine K.thn_normal ?_
        refine K.KW.ifT rfl ?_
        refine K.KW.seq ?_
        -- 5 :94
        refine K.KW.region ?_
        refine K.RW.l rfl (K.OW.gcall hS [] [0] [] (awake07_ok _) ?_)
        clear hS; rintro _ _ w ⟨rfl, rfl⟩ hS
        replace hS : K.Sat w0 [fr] w := hS
        refine K.RW.qs [.bool true, .slice a xs.length cap] (by kernel_rfl) ?_
        refine K.RW.q rfl (by kernel_rfl) (K.QR.len (P := Try.prog) rfl rfl Try.underlying22) ?_
        refine K.RW.l (by kernel_rfl) (K.OW.gcall hS [] [0] [.int .i64 ((xs.length : Nat) : Int), .int .i64 3] (mayOpen_okR _ xs.length 3 (by omega) (by omega)) ?_)
        clear hS; rintro _ _ w ⟨rfl, rfl⟩ hS
        replace hS : K.Sat w0 [fr] w := hS
        by_cases h_30 : ((mayOpenM xs.length 3) : Int) = (0 : Int)
        ·  -- yes
          refine K.RW.q rfl (by kernel_rfl) (K.QR.nice (v := .bool (((mayOpenM xs.length 3) : Int) != (0 : Int))) (by kernel_rfl) (congrArg Value.bool (bne_eq_false_iff_eq.2 h_30))) ?_
          refine K.RW.qs [.bool false, .int .i64 k] (by kernel_rfl) ?_
          by_cases h_31 : (k : Int) < (0 : Int)
          ·  -- yes
            refine K.RW.q rfl (by kernel_rfl) (K.QR.nice (v := .bool (decide ((k : Int) < (0 : Int)))) (by kernel_rfl) (congrArg Value.bool (decide_eq_true h_31))) ?_
            refine K.RW.qs [.bool true, .bool true] (by kernel_rfl) ?_
            refine K.RW.skip rfl (by kernel_rfl) ?_
            refine K.RW.skip rfl (by kernel_rfl) ?_
            refine K.RW.qs [.bool true, .bool true, .bool true] (by kernel_rfl) ?_
            refine K.RW.nil ?_
            refine K.thn_normal ?_
            refine K.KW.ret ?_
            refine K.thn_ret ?_
            refine ⟨.inr rfl, rfl, (.bool true), K.res1 rfl rfl, [], ?_, hS.pick [0]⟩
            exact rfl
          ·  -- no
            refine K.RW.q rfl (by kernel_rfl) (K.QR.nice (v := .bool (decide ((k : Int) < (0 : Int)))) (by kernel_rfl) (congrArg Value.bool (decide_eq_false h_31))) ?_
            refine K.RW.qs [.bool false, .bool false, .int .i64 k] (by kernel_rfl) ?_
            by_cases h_32 : (k : Int) > (300 : Int)
            ·  -- yes
              refine K.RW.q rfl (by kernel_rfl) (K.QR.nice (v := .bool (decide ((k : Int) > (300 : Int)))) (by kernel_rfl) (congrArg Value.bool (decide_eq_true h_32))) ?_
              refine K.RW.qs [.bool true, .bool true, .bool true] (by kernel_rfl) ?_
              refine K.RW.nil ?_
              refine K.thn_normal ?_
              refine K.KW.ret ?_
              refine K.thn_ret ?_
              refine ⟨.inr rfl, rfl, (.bool true), K.res1 rfl rfl, [], ?_, hS.pick [0]⟩
              exact rfl
            ·  -- no
              refine K.RW.q rfl (by kernel_rfl) (K.QR.nice (v := .bool (decide ((k : Int) > (300 : Int)))) (by kernel_rfl) (congrArg Value.bool (decide_eq_false h_32))) ?_
              refine K.RW.qs [.bool false, .bool false, .bool false] (by kernel_rfl) ?_
              refine K.RW.nil ?_
              refine K.thn_normal ?_
              refine K.KW.ret ?_
              refine K.thn_ret ?_
              refine ⟨.inr rfl, rfl, (.bool false), K.res1 rfl rfl, [], ?_, hS.pick [0]⟩
              exfalso; omega
        ·  -- no
          refine K.RW.q rfl (by kernel_rfl) (K.QR.nice (v := .bool (((mayOpenM xs.length 3) : Int) != (0 : Int))) (by kernel_rfl) (congrArg Value.bool (bne_iff_ne.2 h_30))) ?_
          refine K.RW.qs [.bool true] (by kernel_rfl) ?_
          refine K.RW.skip rfl (by kernel_rfl) ?_
          refine K.RW.skip rfl (by kernel_rfl) ?_
          refine K.RW.qs [.bool true, .bool true] (by kernel_rfl) ?_
          refine K.RW.skip rfl (by kernel_rfl) ?_
          refine K.RW.skip rfl (by kernel_rfl) ?_
          refine K.RW.qs [.bool true, .bool true, .bool true] (by kernel_rfl) ?_
          refine K.RW.nil ?_
          refine K.thn_normal ?_
          refine K.KW.ret ?_
          refine K.thn_ret ?_
          refine ⟨.inr rfl, rfl, (.bool true), K.res1 rfl rfl, [], ?_, hS.pick [0]⟩
          exact rfl

end Go.Proofs.Ytgeihjiichdpbaa
