/- PmemPeeks. -/
import Derived.Test.YtgeihjiichdpbaaLl7
namespace Go.Proofs.Ytgeihjiichdpbaa
open Go.RowKit
set_option linter.unusedVariables false
attribute [local irreducible] K.KW K.RW K.DW K.OW K.QR K.KC

set_option maxHeartbeats 1000000 in
set_option maxRecDepth 100000 in
theorem l7peeks_ok (w0 : World) (a b : Option Addr) (cap cap2 : Nat) (xs : List Int) (ls : List ActP) (hg : ∀ j, j < ls.length → (ls.getD j ap0).good) (hm : xs.length ≤ 9223372036854775807) (hm2 : ls.length ≤ 9223372036854775807) (hc : xs.length ≤ cap) (hx : RU64 w0 a xs) (hy : K.RowE w0 b ls.length 5 (fun i => cActP (ls.getD i ap0))) (at_ : Int) (hat : isInt at_) :
    K.GC Try.prog w0 14 #[.slice a xs.length cap, .slice b ls.length cap2, .int .i64 at_] [] (fun v post => v = .bool true) := by
  refine K.GC.mk (n := 115) Try.func14 rfl rfl [.slice a xs.length cap, .slice b ls.length cap2, .int .i64 at_] rfl rfl ?_
  intro fr w hS
  replace hS : K.Sat w0 [fr] w := hS
  refine K.KW.seq ?_
  -- 0 :107
  refine K.KW.region ?_
  refine K.RW.qs [.bool false] (by kernel_rfl) ?_
  refine K.RW.nil ?_
  refine K.thn_normal ?_
  refine K.KW.seq ?_
  refine K.KW.seq ?_
  -- 1 :108
  refine K.KW.region ?_
  refine K.RW.qs [.slice a xs.length cap] (by kernel_rfl) ?_
  refine K.RW.q rfl rfl (K.QR.len (P := Try.prog) rfl rfl Try.underlying22) ?_
  by_cases h_1 : (((xs.length : Nat) : Int) : Int) > (60 : Int)
  ·  -- yes
    refine K.RW.q rfl rfl (K.QR.nice (v := .bool (decide ((((xs.length : Nat) : Int) : Int) > (60 : Int)))) (by kernel_rfl) (congrArg Value.bool (decide_eq_true h_1))) ?_
    refine K.RW.qs [.bool true] (by kernel_rfl) ?_
    refine K.RW.skip rfl (by kernel_rfl) ?_
    refine K.RW.skip rfl (by kernel_rfl) ?_
    refine K.RW.skip rfl (by kernel_rfl) ?_
    refine K.RW.qs [.bool true] (by kernel_rfl) ?_
    refine K.RW.nil ?_
    refine K.thn_normal ?_
    refine K.KW.ifT rfl ?_
    refine K.KW.seq ?_
    -- 2 :109
    refine K.KW.region ?_
    refine K.RW.l rfl (K.OW.gcall hS [] [0] [] (awake07_ok _) ?_)
    clear hS; rintro _ _ w ⟨rfl, rfl⟩ hS
    replace hS : K.Sat w0 [fr] w := hS
    refine K.RW.qs [.bool true] (by kernel_rfl) ?_
    refine K.RW.nil ?_
    refine K.thn_normal ?_
    refine K.KW.ret ?_
    refine K.thn_ret ?_
    refine ⟨.inr rfl, rfl, (.bool true), K.res1 rfl rfl, [], ?_, hS.pick [0]⟩
    exact rfl
  ·  -- no
    refine K.RW.q rfl rfl (K.QR.nice (v := .bool (decide ((((xs.length : Nat) : Int) : Int) > (60 : Int)))) (by kernel_rfl) (congrArg Value.bool (decide_eq_false h_1))) ?_
    refine K.RW.qs [.bool false, .slice b ls.length cap2] (by kernel_rfl) ?_
    refine K.RW.q rfl (by kernel_rfl) (K.QR.len (P := Try.prog) rfl rfl Try.underlying96) ?_
    by_cases h_2 : (((ls.length : Nat) : Int) : Int) > (20 : Int)
    ·  -- yes
      refine K.RW.q rfl (by kernel_rfl) (K.QR.nice (v := .bool (decide ((((ls.length : Nat) : Int) : Int) > (20 : Int)))) (by kernel_rfl) (congrArg Value.bool (decide_eq_true h_2))) ?_
      refine K.RW.qs [.bool true] (by kernel_rfl) ?_
      refine K.RW.nil ?_
      refine K.thn_normal ?_
      refine K.KW.ifT rfl ?_
      refine K.KW.seq ?_
      -- 2 :109
      refine K.KW.region ?_
      refine K.RW.l rfl (K.OW.gcall hS [] [0] [] (awake07_ok _) ?_)
      clear hS; rintro _ _ w ⟨rfl, rfl⟩ hS
      replace hS : K.Sat w0 [fr] w := hS
      refine K.RW.qs [.bool true] (by kernel_rfl) ?_
      refine K.RW.nil ?_
      refine K.thn_normal ?_
      refine K.KW.ret ?_
      refine K.thn_ret ?_
      refine ⟨.inr rfl, rfl, (.bool true), K.res1 rfl rfl, [], ?_, hS.pick [0]⟩
      exact rfl
    ·  -- no
      refine K.RW.q rfl (by kernel_rfl) (K.QR.nice (v := .bool (decide ((((ls.length : Nat) : Int) : Int) > (20 : Int)))) (by kernel_rfl) (congrArg Value.bool (decide_eq_false h_2))) ?_
      refine K.RW.qs [.bool false] (by kernel_rfl) ?_
      refine K.RW.nil ?_
      refine K.thn_normal ?_
      refine K.KW.ifF rfl ?_
      refine K.KW.skip ?_
      refine K.thn_normal ?_
      refine K.KW.seq ?_
      -- 3 :111
      refine K.KW.region ?_
      refine K.RW.qs [.slice a xs.length cap] (by kernel_rfl) ?_
      refine K.RW.l rfl (K.OW.gcall hS [] [0] [.slice a xs.length cap, .int .i64 5] (both7_ok _ _ _ xs (5 : Int) (by omega) (by omega) (by omega) hx) ?_)
      clear hS; rintro _ _ w (⟨p_3, r_4, q_5, u_6, n_7, l_8, m_9, rfl, rfl, x_10, y_11, hn_12, hn2_13, h_14, hk_15⟩ | ⟨rfl, rfl, h_16⟩) hS
      ·
        replace hS : K.Sat w0 [l_8, m_9, fr] w := hS
        refine K.RW.qs [.tuple #[.pointer (some ⟨p_3, 0, none⟩), .pointer (some ⟨r_4, 0, none⟩), .bool true], .pointer (some ⟨p_3, 0, none⟩), .pointer (some ⟨r_4, 0, none⟩), .bool true, .pointer (some ⟨p_3, 0, none⟩), .pointer (some ⟨r_4, 0, none⟩), .bool true] (by kernel_rfl) ?_
        refine K.RW.nil ?_
        refine K.thn_normal ?_
        refine K.KW.seq ?_
        refine K.KW.seq ?_
        -- 4 :112
        refine K.KW.region ?_
        refine K.RW.qs [.bool true, .bool false] (by kernel_rfl) ?_
        refine K.RW.nil ?_
        refine K.thn_normal ?_
        refine K.KW.ifF rfl ?_
        refine K.KW.skip ?_
        refine K.thn_normal ?_
        refine K.KW.seq ?_
        refine K.KW.seq ?_
        -- 6 :115
        refine K.KW.region ?_
        refine K.RW.qs [.int .i64 0] (by kernel_rfl) ?_
        refine K.RW.nil ?_
        refine K.thn_normal ?_
        refine K.KW.block ?_
        refine K.KW.loop (fun m_ F_ w_ => ∃ (j : Nat) (l1 : K.Cs) (m1 : K.Cs), m_ = ls.length - j ∧ K.Sl F_ [(0, .slice a xs.length cap), (1, .slice b ls.length cap2), (2, .int .i64 at_), (6, .bool false), (7, .pointer (some ⟨p_3, 0, none⟩)), (8, .pointer (some ⟨r_4, 0, none⟩)), (10, .int .i64 ((j : Nat) : Int)), (115, undef)] ∧ j ≤ ls.length ∧ MemAt l1 p_3 q_5 n_7 3 (acts7 (MemM.of (DevM.fresh xs n_7 3) (5 : Int).toNat) n_7 3 (ls.take j)) ∧ RMemAt m1 r_4 u_6 n_7 3 (acts7 (MemM.of (DevM.fresh xs n_7 3) (5 : Int).toNat) n_7 3 (ls.take j)) ∧ K.Sat w0 [l1, m1, fr] w_) ((fun (j : Nat) => ls.length - j) 0) ?_ ?_
        · -- begins
          exact ⟨0, l_8, m_9, rfl, ⟨by rfl, by rfl, by rfl, by rfl, by rfl, by rfl, by rfl, by rfl, trivial⟩, (by omega), x_10, y_11, hS.pick [0, 1, 2]⟩
        · -- a round
          clear hS
          intro m_17 F_18 w hI
          obtain ⟨j, l1, m1, rfl, sl_19, p_20, x_21, x_22, hS⟩ := hI
          rw [← K.Sl.puts sl_19]; clear sl_19
          refine K.KW.seq ?_
          refine K.KW.seq ?_
          -- 7 :115
          refine K.KW.region ?_
          refine K.RW.qs [.int .i64 ((j : Nat) : Int), .slice b ls.length cap2] (by kernel_rfl) ?_
          refine K.RW.q rfl rfl (K.QR.len (P := Try.prog) rfl rfl Try.underlying96) ?_
          by_cases h_23 : (((j : Nat) : Int) : Int) < (((ls.length : Nat) : Int) : Int)
          ·  -- yes
            refine K.RW.q rfl rfl (K.QR.nice (v := .bool (decide ((((j : Nat) : Int) : Int) < (((ls.length : Nat) : Int) : Int)))) (by kernel_rfl) (congrArg Value.bool (decide_eq_true h_23))) ?_
            refine K.RW.nil ?_
            refine K.thn_normal ?_
            refine K.KW.ifT rfl ?_
            refine K.KW.skip ?_
            refine K.thn_normal ?_
            refine K.KW.seq ?_
            refine K.KW.block ?_
            refine K.KW.seq ?_
            -- 9 :116
            obtain ⟨b_24, of_25, rfl, _⟩ := hy.at_ (by omega)
            refine K.KW.region ?_
            refine K.RW.qs [.pointer (some ⟨p_3, 0, none⟩), .slice (some ⟨b_24, of_25, none⟩) ls.length cap2, .int .i64 ((j : Nat) : Int)] (by kernel_rfl) ?_
            refine K.RW.q rfl rfl (K.QR.ix (of_25 + j * 5) 5 rfl rfl rfl Try.underlying96 (by kernel_rfl) (by omega) (by first | (simp; done) | omega | (simp; omega))) ?_
            refine K.RW.q rfl rfl (K.QR.ldN [.int .i64 ((ls.getD j ap0).kind), .int .i64 ((ls.getD j ap0).thread), .int .i64 ((ls.getD j ap0).at_), .int .u64 ((ls.getD j ap0).old), .int .u64 ((ls.getD j ap0).w)] rfl rfl (by kernel_rfl) (by kernel_rfl) (K.cells (K.cl ((hy.no hS.chg).ld j (by omega) 0 _ rfl) (K.cl ((hy.no hS.chg).ld j (by omega) 1 _ rfl) (K.cl ((hy.no hS.chg).ld j (by omega) 2 _ rfl) (K.cl ((hy.no hS.chg).ld j (by omega) 3 _ rfl) (K.cl ((hy.no hS.chg).ld j (by omega) 4 _ rfl) K.cl0))))))) ?_
            refine K.RW.l rfl (K.OW.gcall hS [0] [1, 2] [.pointer (some ⟨p_3, 0, none⟩), .agg #[.int .i64 ((ls.getD j ap0).kind), .int .i64 ((ls.getD j ap0).thread), .int .i64 ((ls.getD j ap0).at_), .int .u64 ((ls.getD j ap0).old), .int .u64 ((ls.getD j ap0).w)]] (do7_ok _ _ _ _ _ _ _ x_21 (ls.getD j ap0) (hg j (by omega))) ?_)
            clear hS; rintro _ _ w ⟨l_26, rfl, rfl, x_27⟩ hS
            replace hS : K.Sat w0 [l_26, m1, fr] w := hS
            refine K.RW.nil ?_
            refine K.thn_normal ?_
            -- 10 :117
            refine K.KW.region ?_
            refine K.RW.qs [.pointer (some ⟨r_4, 0, none⟩), .slice (some ⟨b_24, of_25, none⟩) ls.length cap2, .int .i64 ((j : Nat) : Int)] (by kernel_rfl) ?_
            refine K.RW.q rfl rfl (K.QR.ix (of_25 + j * 5) 5 rfl rfl rfl Try.underlying96 (by kernel_rfl) (by omega) (by first | (simp; done) | omega | (simp; omega))) ?_
            refine K.RW.q rfl rfl (K.QR.ldN [.int .i64 ((ls.getD j ap0).kind), .int .i64 ((ls.getD j ap0).thread), .int .i64 ((ls.getD j ap0).at_), .int .u64 ((ls.getD j ap0).old), .int .u64 ((ls.getD j ap0).w)] rfl rfl (by kernel_rfl) (by kernel_rfl) (K.cells (K.cl ((hy.no hS.chg).ld j (by omega) 0 _ rfl) (K.cl ((hy.no hS.chg).ld j (by omega) 1 _ rfl) (K.cl ((hy.no hS.chg).ld j (by omega) 2 _ rfl) (K.cl ((hy.no hS.chg).ld j (by omega) 3 _ rfl) (K.cl ((hy.no hS.chg).ld j (by omega) 4 _ rfl) K.cl0))))))) ?_
            refine K.RW.l rfl (K.OW.gcall hS [1] [0, 2] [.pointer (some ⟨r_4, 0, none⟩), .agg #[.int .i64 ((ls.getD j ap0).kind), .int .i64 ((ls.getD j ap0).thread), .int .i64 ((ls.getD j ap0).at_), .int .u64 ((ls.getD j ap0).old), .int .u64 ((ls.getD j ap0).w)]] (must7_ok _ _ _ _ _ _ _ x_22 (ls.getD j ap0) (hg j (by omega))) ?_)
            clear hS; rintro _ _ w ⟨l_28, rfl, rfl, x_29⟩ hS
            replace hS : K.Sat w0 [l_28, l_26, fr] w := hS
            refine K.RW.nil ?_
            refine K.blk_normal ?_
            refine K.thn_normal ?_
            -- 8 :115
            refine K.KW.region ?_
            refine K.RW.qs [.int .i64 ((j : Nat) : Int)] (by kernel_rfl) ?_
            refine K.RW.q rfl rfl (K.QR.n64 ((((j : Nat) : Int) : Int) + (1 : Int)) ((j + 1 : Nat) : Int) (by kernel_rfl) (by omega)) ?_
            refine K.RW.qs [.int .i64 ((j + 1 : Nat) : Int)] (by kernel_rfl) ?_
            refine K.RW.nil ?_
            refine K.thn_normal ?_
            refine ⟨_, ?_, j + 1, l_26, l_28, rfl, ⟨by rfl, by rfl, by rfl, by rfl, by rfl, by rfl, by rfl, by rfl, trivial⟩, (by omega), (by rw [acts7_next (by omega)]; exact x_27), (by rw [acts7_next (by omega)]; exact x_29), hS.pick [1, 0, 2]⟩
            omega
          ·  -- no
            refine K.RW.q rfl rfl (K.QR.nice (v := .bool (decide ((((j : Nat) : Int) : Int) < (((ls.length : Nat) : Int) : Int)))) (by kernel_rfl) (congrArg Value.bool (decide_eq_false h_23))) ?_
            refine K.RW.nil ?_
            refine K.thn_normal ?_
            refine K.KW.ifF rfl ?_
            refine K.KW.exit ?_
            refine K.thn_exit ?_
            refine K.thn_exit ?_
            refine K.blk_hit ?_
            refine K.thn_normal ?_
            refine K.KW.seq ?_
            -- 11 :119
            have hM1 := MemAt.isok x_21
            generalize acts7 (MemM.of (DevM.fresh xs n_7 3) (5 : Int).toNat) n_7 3 (ls.take j) = M1 at hM1 x_21 x_22
            refine K.KW.region ?_
            refine K.RW.qs [.pointer (some ⟨p_3, 0, none⟩)] (by kernel_rfl) ?_
            refine K.RW.l rfl (K.OW.gcall hS [0] [1, 2] [.pointer (some ⟨p_3, 0, none⟩)] (mClock_ok _ _ _ _ _ _ _ x_21 ) ?_)
            clear hS; rintro _ _ w ⟨rfl, rfl⟩ hS
            replace hS : K.Sat w0 [l1, m1, fr] w := hS
            refine K.RW.qs [.int .i64 M1.clock] (by kernel_rfl) ?_
            refine K.RW.nil ?_
            refine K.thn_normal ?_
            refine K.KW.seq ?_
            -- 12 :120
            refine K.KW.region ?_
            refine K.RW.qs [.pointer (some ⟨p_3, 0, none⟩), .int .i64 at_] (by kernel_rfl) ?_
            refine K.RW.l rfl (K.OW.gcall hS [0] [1, 2] [.pointer (some ⟨p_3, 0, none⟩), .int .i64 at_] (mPeek_ok _ _ _ _ _ _ _ x_21 at_ (by omega)) ?_)
            clear hS; rintro _ _ w ⟨rfl, (⟨y_30, rfl, h_31⟩ | ⟨rfl, h_32⟩)⟩ hS
            ·
              replace hS : K.Sat w0 [l1, m1, fr] w := hS
              refine K.RW.qs [.tuple #[.int .u64 y_30, .bool true], .int .u64 y_30, .bool true, .int .u64 y_30, .bool true] (by kernel_rfl) ?_
              refine K.RW.nil ?_
              refine K.thn_normal ?_
              refine K.KW.seq ?_
              -- 13 :121
              refine K.KW.region ?_
              refine K.RW.qs [.pointer (some ⟨r_4, 0, none⟩), .int .i64 at_] (by kernel_rfl) ?_
              refine K.RW.l rfl (K.OW.gcall hS [1] [0, 2] [.pointer (some ⟨r_4, 0, none⟩), .int .i64 at_] (rmPeekS_ok _ _ _ _ _ _ _ x_22 at_ (by omega) y_30 (h_31)) ?_)
              clear hS; rintro _ _ w ⟨rfl, rfl⟩ hS
              replace hS : K.Sat w0 [m1, l1, fr] w := hS
              refine K.RW.qs [.tuple #[.int .u64 y_30, .bool true], .int .u64 y_30, .bool true, .int .u64 y_30, .bool true] (by kernel_rfl) ?_
              refine K.RW.nil ?_
              refine K.thn_normal ?_
              refine K.KW.seq ?_
              -- 14 :122
              refine K.KW.region ?_
              refine K.RW.qs [.int .i64 0] (by kernel_rfl) ?_
              refine K.RW.nil ?_
              refine K.thn_normal ?_
              refine K.KW.seq ?_
              refine K.KW.seq ?_
              -- 15 :123
              refine K.KW.region ?_
              refine K.RW.qs [.int .i64 at_] (by kernel_rfl) ?_
              by_cases h_33 : (at_ : Int) ≥ (0 : Int)
              ·  -- yes
                refine K.RW.q rfl rfl (K.QR.nice (v := .bool (decide ((at_ : Int) ≥ (0 : Int)))) (by kernel_rfl) (congrArg Value.bool (decide_eq_true h_33))) ?_
                refine K.RW.qs [.bool true, .int .i64 at_, .slice a xs.length cap] (by kernel_rfl) ?_
                refine K.RW.q rfl (by kernel_rfl) (K.QR.len (P := Try.prog) rfl rfl Try.underlying22) ?_
                by_cases h_34 : (at_ : Int) < (((xs.length : Nat) : Int) : Int)
                ·  -- yes
                  refine K.RW.q rfl (by kernel_rfl) (K.QR.nice (v := .bool (decide ((at_ : Int) < (((xs.length : Nat) : Int) : Int)))) (by kernel_rfl) (congrArg Value.bool (decide_eq_true h_34))) ?_
                  refine K.RW.qs [.bool true] (by kernel_rfl) ?_
                  refine K.RW.nil ?_
                  refine K.thn_normal ?_
                  refine K.KW.ifT rfl ?_
                  -- 16 :124
                  obtain ⟨rg, rp, rd, ra, rnp, rcp, rfl, hrg, hrp, hrd, hrnp, hrn18⟩ := x_22
                  replace hS : K.Sat w0 [rg, rp, rd, l1, fr] w := hS.of
                  obtain ⟨g, gk, gs, gw, gf, gz, vs, ka, sa, wa, fa, ck, cs, cw, cf, rfl, hg, ok, os, ow, of, lv, oz, dk⟩ := hrd
                  have dk2 := dk; obtain ⟨lk, ls, lw, lf, lB, n0, n1, t0, t1⟩ := dk2
                  replace hS : K.Sat w0 [rg, rp, g, gk, gs, gw, gf, gz, l1, fr] w := hS.of
                  refine K.KW.region ?_
                  refine K.RW.qs [.pointer (some ⟨r_4, 0, none⟩), .pointer (some ⟨r_4, 0, none⟩), .pointer (some ⟨r_4, 0, none⟩)] (by kernel_rfl) ?_
                  refine K.RW.q rfl rfl (K.QR.ld1 (v := .pointer (some ⟨u_6, 0, none⟩)) rfl rfl (by kernel_rfl) ((hS.blk 0 rfl hrg).cell rfl)) ?_
                  refine K.RW.qs [.pointer (some ⟨u_6, 0, none⟩), .pointer (some ⟨u_6, 2, none⟩)] (by kernel_rfl) ?_
                  refine K.RW.q rfl rfl (K.QR.ld1 (v := .slice wa n_7 cw) rfl rfl (by kernel_rfl) ((hS.blk 2 rfl hg).cell rfl)) ?_
                  refine K.RW.qs [.int .i64 at_] (by kernel_rfl) ?_
                  refine K.RW.q rfl rfl (K.QR.quoi64 (at_ : Int) 8 ((at_ : Int) / 8) (by kernel_rfl) (by omega) (by omega)) ?_
                  obtain ⟨b_35, rfl⟩ := ow.some_ (by have := ow.le; omega)
                  refine K.RW.q rfl rfl (K.QR.ix (((at_ : Int) / 8).toNat) 1 rfl rfl rfl Try.underlying73 (by kernel_rfl) (by omega) (by first | (simp; done) | omega | (simp; omega))) ?_
                  refine K.RW.q rfl rfl (K.QR.ld1 (v := .int .i64 (M1.dev.writes.getD (((at_ : Int) / 8).toNat) 0)) rfl rfl (by kernel_rfl) (K.Own.atS (c := cI64) (d := 0) (fun _ => rfl) (hS.ownr 5 rfl ow) lw (((at_ : Int) / 8).toNat) (by omega))) ?_
                  refine K.RW.qs [.int .i64 (M1.dev.writes.getD (((at_ : Int) / 8).toNat) 0)] (by kernel_rfl) ?_
                  refine K.RW.nil ?_
                  refine K.thn_normal ?_
                  refine K.KW.seq ?_
                  -- 17 :126
                  refine K.KW.region ?_
                  refine K.RW.l rfl (K.OW.gcall hS [] [0, 1, 2, 3, 4, 5, 6, 7, 8, 9] [] (awake07_ok _) ?_)
                  clear hS; rintro _ _ w ⟨rfl, rfl⟩ hS
                  replace hS : K.Sat w0 [rg, rp, g, gk, gs, gw, gf, gz, l1, fr] w := hS
                  refine K.RW.qs [.bool true, .int .u64 y_30, .int .u64 y_30] (by kernel_rfl) ?_
                  refine K.RW.q rfl (by kernel_rfl) (K.QR.nice (v := .bool ((y_30 : Int) == (y_30 : Int))) (by kernel_rfl) (congrArg Value.bool (beq_iff_eq.2 rfl))) ?_
                  refine K.RW.qs [.bool true, .bool true, .bool true, .bool true, .bool true, .bool true, .bool true, .pointer (some ⟨p_3, 0, none⟩)] (by kernel_rfl) ?_
                  refine K.RW.l (by kernel_rfl) (K.OW.gcall hS [8] [0, 1, 2, 3, 4, 5, 6, 7, 9] [.pointer (some ⟨p_3, 0, none⟩)] (mClock_ok _ _ _ _ _ _ _ x_21 ) ?_)
                  clear hS; rintro _ _ w ⟨rfl, rfl⟩ hS
                  replace hS : K.Sat w0 [l1, rg, rp, g, gk, gs, gw, gf, gz, fr] w := hS
                  refine K.RW.qs [.int .i64 M1.clock] (by kernel_rfl) ?_
                  refine K.RW.q rfl (by kernel_rfl) (K.QR.nice (v := .bool ((M1.clock : Int) == (M1.clock : Int))) (by kernel_rfl) (congrArg Value.bool (beq_iff_eq.2 rfl))) ?_
                  refine K.RW.qs [.bool true, .bool true, .pointer (some ⟨p_3, 0, none⟩), .int .i64 at_] (by kernel_rfl) ?_
                  refine K.RW.l (by kernel_rfl) (K.OW.gcall hS [0] [1, 2, 3, 4, 5, 6, 7, 8, 9] [.pointer (some ⟨p_3, 0, none⟩), .int .i64 at_] (mWrites_ok _ _ _ _ _ _ _ x_21 at_ (by omega)) ?_)
                  clear hS; rintro _ _ w ⟨rfl, (⟨rfl, h_37⟩ | ⟨rfl, h_38⟩)⟩ hS
                  ·
                    replace hS : K.Sat w0 [l1, rg, rp, g, gk, gs, gw, gf, gz, fr] w := hS
                    refine K.RW.qs [.int .i64 (M1.dev.writes.getD (((at_ : Int) / 8).toNat) 0)] (by kernel_rfl) ?_
                    refine K.RW.q rfl (by kernel_rfl) (K.QR.nice (v := .bool (((M1.dev.writes.getD ((at_ : Int) / 8).toNat 0) : Int) == (M1.dev.writes.getD (((at_ : Int) / 8).toNat) 0 : Int))) (by kernel_rfl) (congrArg Value.bool (beq_iff_eq.2 (rfl)))) ?_
                    refine K.RW.qs [.bool true, .bool true, .pointer (some ⟨p_3, 0, none⟩), .pointer (some ⟨r_4, 0, none⟩)] (by kernel_rfl) ?_
                    replace hS : K.Sat w0 [[g, gk, gs, gw, gf, gz].flatten, l1, rg, rp, fr] w := (hS.pick [3, 4, 5, 6, 7, 8, 0, 1, 2, 9]).of
                    have xd_39 : RDevAt ([g, gk, gs, gw, gf, gz].flatten) u_6 n_7 3 M1.dev := ⟨_, _, _, _, _, _, _, _, _, _, _, _, _, _, _, rfl, hg, ok, os, ow, of, lv, oz, dk⟩
                    generalize [g, gk, gs, gw, gf, gz].flatten = ld_40 at hS xd_39
                    replace hS : K.Sat w0 [[rg, rp, ld_40].flatten, l1, fr] w := (hS.pick [2, 3, 0, 1, 4]).of
                    have xr_41 : RMemAt ([rg, rp, ld_40].flatten) r_4 u_6 n_7 3 M1 := ⟨_, _, _, _, _, _, rfl, hrg, hrp, xd_39, hrnp, hrn18⟩
                    generalize [rg, rp, ld_40].flatten = lr_42 at hS xr_41
                    refine K.RW.l (by kernel_rfl) (K.OW.gcall hS [1, 0] [2] [.pointer (some ⟨p_3, 0, none⟩), .pointer (some ⟨r_4, 0, none⟩)] (same7_ok _ _ _ _ _ _ _ _ _ _ x_21 xr_41) ?_)
                    clear hS; rintro _ _ w ⟨rfl, rfl⟩ hS
                    replace hS : K.Sat w0 [l1, lr_42, fr] w := hS
                    refine K.RW.qs [.bool true, .bool true] (by kernel_rfl) ?_
                    refine K.RW.nil ?_
                    refine K.thn_normal ?_
                    refine K.KW.ret ?_
                    refine ⟨.inr rfl, rfl, (.bool true), K.res1 rfl rfl, [], ?_, hS.pick [2]⟩
                    exact rfl
                  ·
                    exfalso; omega
                ·  -- no
                  refine K.RW.q rfl (by kernel_rfl) (K.QR.nice (v := .bool (decide ((at_ : Int) < (((xs.length : Nat) : Int) : Int)))) (by kernel_rfl) (congrArg Value.bool (decide_eq_false h_34))) ?_
                  refine K.RW.qs [.bool false] (by kernel_rfl) ?_
                  refine K.RW.nil ?_
                  refine K.thn_normal ?_
                  refine K.KW.ifF rfl ?_
                  refine K.KW.skip ?_
                  refine K.thn_normal ?_
                  refine K.KW.seq ?_
                  -- 17 :126
                  refine K.KW.region ?_
                  refine K.RW.l rfl (K.OW.gcall hS [] [0, 1, 2] [] (awake07_ok _) ?_)
                  clear hS; rintro _ _ w ⟨rfl, rfl⟩ hS
                  replace hS : K.Sat w0 [m1, l1, fr] w := hS
                  refine K.RW.qs [.bool true, .int .u64 y_30, .int .u64 y_30] (by kernel_rfl) ?_
                  refine K.RW.q rfl (by kernel_rfl) (K.QR.nice (v := .bool ((y_30 : Int) == (y_30 : Int))) (by kernel_rfl) (congrArg Value.bool (beq_iff_eq.2 rfl))) ?_
                  refine K.RW.qs [.bool true, .bool true, .bool true, .bool true, .bool true, .bool true, .bool true, .pointer (some ⟨p_3, 0, none⟩)] (by kernel_rfl) ?_
                  refine K.RW.l (by kernel_rfl) (K.OW.gcall hS [1] [0, 2] [.pointer (some ⟨p_3, 0, none⟩)] (mClock_ok _ _ _ _ _ _ _ x_21 ) ?_)
                  clear hS; rintro _ _ w ⟨rfl, rfl⟩ hS
                  replace hS : K.Sat w0 [l1, m1, fr] w := hS
                  refine K.RW.qs [.int .i64 M1.clock] (by kernel_rfl) ?_
                  refine K.RW.q rfl (by kernel_rfl) (K.QR.nice (v := .bool ((M1.clock : Int) == (M1.clock : Int))) (by kernel_rfl) (congrArg Value.bool (beq_iff_eq.2 rfl))) ?_
                  refine K.RW.qs [.bool true, .bool true, .pointer (some ⟨p_3, 0, none⟩), .int .i64 at_] (by kernel_rfl) ?_
                  refine K.RW.l (by kernel_rfl) (K.OW.gcall hS [0] [1, 2] [.pointer (some ⟨p_3, 0, none⟩), .int .i64 at_] (mWrites_ok _ _ _ _ _ _ _ x_21 at_ (by omega)) ?_)
                  clear hS; rintro _ _ w ⟨rfl, (⟨rfl, h_43⟩ | ⟨rfl, h_44⟩)⟩ hS
                  ·
                    exfalso; omega
                  ·
                    replace hS : K.Sat w0 [l1, m1, fr] w := hS
                    refine K.RW.qs [.int .i64 0, .bool true, .bool true, .bool true, .pointer (some ⟨p_3, 0, none⟩), .pointer (some ⟨r_4, 0, none⟩)] (by kernel_rfl) ?_
                    refine K.RW.l (by kernel_rfl) (K.OW.gcall hS [0, 1] [2] [.pointer (some ⟨p_3, 0, none⟩), .pointer (some ⟨r_4, 0, none⟩)] (same7_ok _ _ _ _ _ _ _ _ _ _ x_21 x_22) ?_)
                    clear hS; rintro _ _ w ⟨rfl, rfl⟩ hS
                    replace hS : K.Sat w0 [l1, m1, fr] w := hS
                    refine K.RW.qs [.bool true, .bool true] (by kernel_rfl) ?_
                    refine K.RW.nil ?_
                    refine K.thn_normal ?_
                    refine K.KW.ret ?_
                    refine ⟨.inr rfl, rfl, (.bool true), K.res1 rfl rfl, [], ?_, hS.pick [2]⟩
                    exact rfl
              ·  -- no
                refine K.RW.q rfl rfl (K.QR.nice (v := .bool (decide ((at_ : Int) ≥ (0 : Int)))) (by kernel_rfl) (congrArg Value.bool (decide_eq_false h_33))) ?_
                refine K.RW.qs [.bool false] (by kernel_rfl) ?_
                refine K.RW.skip rfl (by kernel_rfl) ?_
                refine K.RW.skip rfl (by kernel_rfl) ?_
                refine K.RW.skip rfl (by kernel_rfl) ?_
                refine K.RW.skip rfl (by kernel_rfl) ?_
                refine K.RW.qs [.bool false] (by kernel_rfl) ?_
                refine K.RW.nil ?_
                refine K.thn_normal ?_
                refine K.KW.ifF rfl ?_
                refine K.KW.skip ?_
                refine K.thn_normal ?_
                refine K.KW.seq ?_
                -- 17 :126
                refine K.KW.region ?_
                refine K.RW.l rfl (K.OW.gcall hS [] [0, 1, 2] [] (awake07_ok _) ?_)
                clear hS; rintro _ _ w ⟨rfl, rfl⟩ hS
                replace hS : K.Sat w0 [m1, l1, fr] w := hS
                refine K.RW.qs [.bool true, .int .u64 y_30, .int .u64 y_30] (by kernel_rfl) ?_
                refine K.RW.q rfl (by kernel_rfl) (K.QR.nice (v := .bool ((y_30 : Int) == (y_30 : Int))) (by kernel_rfl) (congrArg Value.bool (beq_iff_eq.2 rfl))) ?_
                refine K.RW.qs [.bool true, .bool true, .bool true, .bool true, .bool true, .bool true, .bool true, .pointer (some ⟨p_3, 0, none⟩)] (by kernel_rfl) ?_
                refine K.RW.l (by kernel_rfl) (K.OW.gcall hS [1] [0, 2] [.pointer (some ⟨p_3, 0, none⟩)] (mClock_ok _ _ _ _ _ _ _ x_21 ) ?_)
                clear hS; rintro _ _ w ⟨rfl, rfl⟩ hS
                replace hS : K.Sat w0 [l1, m1, fr] w := hS
                refine K.RW.qs [.int .i64 M1.clock] (by kernel_rfl) ?_
                refine K.RW.q rfl (by kernel_rfl) (K.QR.nice (v := .bool ((M1.clock : Int) == (M1.clock : Int))) (by kernel_rfl) (congrArg Value.bool (beq_iff_eq.2 rfl))) ?_
                refine K.RW.qs [.bool true, .bool true, .pointer (some ⟨p_3, 0, none⟩), .int .i64 at_] (by kernel_rfl) ?_
                refine K.RW.l (by kernel_rfl) (K.OW.gcall hS [0] [1, 2] [.pointer (some ⟨p_3, 0, none⟩), .int .i64 at_] (mWrites_ok _ _ _ _ _ _ _ x_21 at_ (by omega)) ?_)
                clear hS; rintro _ _ w ⟨rfl, (⟨rfl, h_45⟩ | ⟨rfl, h_46⟩)⟩ hS
                ·
                  exfalso; omega
                ·
                  replace hS : K.Sat w0 [l1, m1, fr] w := hS
                  refine K.RW.qs [.int .i64 0, .bool true, .bool true, .bool true, .pointer (some ⟨p_3, 0, none⟩), .pointer (some ⟨r_4, 0, none⟩)] (by kernel_rfl) ?_
                  refine K.RW.l (by kernel_rfl) (K.OW.gcall hS [0, 1] [2] [.pointer (some ⟨p_3, 0, none⟩), .pointer (some ⟨r_4, 0, none⟩)] (same7_ok _ _ _ _ _ _ _ _ _ _ x_21 x_22) ?_)
                  clear hS; rintro _ _ w ⟨rfl, rfl⟩ hS
                  replace hS : K.Sat w0 [l1, m1, fr] w := hS
                  refine K.RW.qs [.bool true, .bool true] (by kernel_rfl) ?_
                  refine K.RW.nil ?_
                  refine K.thn_normal ?_
                  refine K.KW.ret ?_
                  refine ⟨.inr rfl, rfl, (.bool true), K.res1 rfl rfl, [], ?_, hS.pick [2]⟩
                  exact rfl
            ·
              replace hS : K.Sat w0 [l1, m1, fr] w := hS
              refine K.RW.qs [.tuple #[.int .u64 0, .bool false], .int .u64 0, .bool false, .int .u64 0, .bool false] (by kernel_rfl) ?_
              refine K.RW.nil ?_
              refine K.thn_normal ?_
              refine K.KW.seq ?_
              -- 13 :121
              refine K.KW.region ?_
              refine K.RW.qs [.pointer (some ⟨r_4, 0, none⟩), .int .i64 at_] (by kernel_rfl) ?_
              refine K.RW.l rfl (K.OW.gcall hS [1] [0, 2] [.pointer (some ⟨r_4, 0, none⟩), .int .i64 at_] (rmPeekN_ok _ _ _ _ _ _ _ x_22 at_ (by omega) (h_32)) ?_)
              clear hS; rintro _ _ w ⟨rfl, rfl⟩ hS
              replace hS : K.Sat w0 [m1, l1, fr] w := hS
              refine K.RW.qs [.tuple #[.int .u64 0, .bool false], .int .u64 0, .bool false, .int .u64 0, .bool false] (by kernel_rfl) ?_
              refine K.RW.nil ?_
              refine K.thn_normal ?_
              refine K.KW.seq ?_
              -- 14 :122
              refine K.KW.region ?_
              refine K.RW.qs [.int .i64 0] (by kernel_rfl) ?_
              refine K.RW.nil ?_
              refine K.thn_normal ?_
              refine K.KW.seq ?_
              refine K.KW.seq ?_
              -- 15 :123
              refine K.KW.region ?_
              refine K.RW.qs [.int .i64 at_] (by kernel_rfl) ?_
              by_cases h_47 : (at_ : Int) ≥ (0 : Int)
              ·  -- yes
                refine K.RW.q rfl rfl (K.QR.nice (v := .bool (decide ((at_ : Int) ≥ (0 : Int)))) (by kernel_rfl) (congrArg Value.bool (decide_eq_true h_47))) ?_
                refine K.RW.qs [.bool true, .int .i64 at_, .slice a xs.length cap] (by kernel_rfl) ?_
                refine K.RW.q rfl (by kernel_rfl) (K.QR.len (P := Try.prog) rfl rfl Try.underlying22) ?_
                by_cases h_48 : (at_ : Int) < (((xs.length : Nat) : Int) : Int)
                ·  -- yes
                  refine K.RW.q rfl (by kernel_rfl) (K.QR.nice (v := .bool (decide ((at_ : Int) < (((xs.length : Nat) : Int) : Int)))) (by kernel_rfl) (congrArg Value.bool (decide_eq_true h_48))) ?_
                  refine K.RW.qs [.bool true] (by kernel_rfl) ?_
                  refine K.RW.nil ?_
                  refine K.thn_normal ?_
                  refine K.KW.ifT rfl ?_
                  -- 16 :124
                  obtain ⟨rg, rp, rd, ra, rnp, rcp, rfl, hrg, hrp, hrd, hrnp, hrn18⟩ := x_22
                  replace hS : K.Sat w0 [rg, rp, rd, l1, fr] w := hS.of
                  obtain ⟨g, gk, gs, gw, gf, gz, vs, ka, sa, wa, fa, ck, cs, cw, cf, rfl, hg, ok, os, ow, of, lv, oz, dk⟩ := hrd
                  have dk2 := dk; obtain ⟨lk, ls, lw, lf, lB, n0, n1, t0, t1⟩ := dk2
                  replace hS : K.Sat w0 [rg, rp, g, gk, gs, gw, gf, gz, l1, fr] w := hS.of
                  refine K.KW.region ?_
                  refine K.RW.qs [.pointer (some ⟨r_4, 0, none⟩), .pointer (some ⟨r_4, 0, none⟩), .pointer (some ⟨r_4, 0, none⟩)] (by kernel_rfl) ?_
                  refine K.RW.q rfl rfl (K.QR.ld1 (v := .pointer (some ⟨u_6, 0, none⟩)) rfl rfl (by kernel_rfl) ((hS.blk 0 rfl hrg).cell rfl)) ?_
                  refine K.RW.qs [.pointer (some ⟨u_6, 0, none⟩), .pointer (some ⟨u_6, 2, none⟩)] (by kernel_rfl) ?_
                  refine K.RW.q rfl rfl (K.QR.ld1 (v := .slice wa n_7 cw) rfl rfl (by kernel_rfl) ((hS.blk 2 rfl hg).cell rfl)) ?_
                  refine K.RW.qs [.int .i64 at_] (by kernel_rfl) ?_
                  refine K.RW.q rfl rfl (K.QR.quoi64 (at_ : Int) 8 ((at_ : Int) / 8) (by kernel_rfl) (by omega) (by omega)) ?_
                  obtain ⟨b_49, rfl⟩ := ow.some_ (by have := ow.le; omega)
                  refine K.RW.q rfl rfl (K.QR.ix (((at_ : Int) / 8).toNat) 1 rfl rfl rfl Try.underlying73 (by kernel_rfl) (by omega) (by first | (simp; done) | omega | (simp; omega))) ?_
                  refine K.RW.q rfl rfl (K.QR.ld1 (v := .int .i64 (M1.dev.writes.getD (((at_ : Int) / 8).toNat) 0)) rfl rfl (by kernel_rfl) (K.Own.atS (c := cI64) (d := 0) (fun _ => rfl) (hS.ownr 5 rfl ow) lw (((at_ : Int) / 8).toNat) (by omega))) ?_
                  refine K.RW.qs [.int .i64 (M1.dev.writes.getD (((at_ : Int) / 8).toNat) 0)] (by kernel_rfl) ?_
                  refine K.RW.nil ?_
                  refine K.thn_normal ?_
                  refine K.KW.seq ?_
                  -- 17 :126
                  refine K.KW.region ?_
                  refine K.RW.l rfl (K.OW.gcall hS [] [0, 1, 2, 3, 4, 5, 6, 7, 8, 9] [] (awake07_ok _) ?_)
                  clear hS; rintro _ _ w ⟨rfl, rfl⟩ hS
                  replace hS : K.Sat w0 [rg, rp, g, gk, gs, gw, gf, gz, l1, fr] w := hS
                  refine K.RW.qs [.bool true, .int .u64 0, .int .u64 0, .bool true, .bool true, .bool true, .bool false, .bool false, .bool true, .bool true, .bool true, .pointer (some ⟨p_3, 0, none⟩)] (by kernel_rfl) ?_
                  refine K.RW.l (by kernel_rfl) (K.OW.gcall hS [8] [0, 1, 2, 3, 4, 5, 6, 7, 9] [.pointer (some ⟨p_3, 0, none⟩)] (mClock_ok _ _ _ _ _ _ _ x_21 ) ?_)
                  clear hS; rintro _ _ w ⟨rfl, rfl⟩ hS
                  replace hS : K.Sat w0 [l1, rg, rp, g, gk, gs, gw, gf, gz, fr] w := hS
                  refine K.RW.qs [.int .i64 M1.clock] (by kernel_rfl) ?_
                  refine K.RW.q rfl (by kernel_rfl) (K.QR.nice (v := .bool ((M1.clock : Int) == (M1.clock : Int))) (by kernel_rfl) (congrArg Value.bool (beq_iff_eq.2 rfl))) ?_
                  refine K.RW.qs [.bool true, .bool true, .pointer (some ⟨p_3, 0, none⟩), .int .i64 at_] (by kernel_rfl) ?_
                  refine K.RW.l (by kernel_rfl) (K.OW.gcall hS [0] [1, 2, 3, 4, 5, 6, 7, 8, 9] [.pointer (some ⟨p_3, 0, none⟩), .int .i64 at_] (mWrites_ok _ _ _ _ _ _ _ x_21 at_ (by omega)) ?_)
                  clear hS; rintro _ _ w ⟨rfl, (⟨rfl, h_51⟩ | ⟨rfl, h_52⟩)⟩ hS
                  ·
                    replace hS : K.Sat w0 [l1, rg, rp, g, gk, gs, gw, gf, gz, fr] w := hS
                    refine K.RW.qs [.int .i64 (M1.dev.writes.getD (((at_ : Int) / 8).toNat) 0)] (by kernel_rfl) ?_
                    refine K.RW.q rfl (by kernel_rfl) (K.QR.nice (v := .bool (((M1.dev.writes.getD ((at_ : Int) / 8).toNat 0) : Int) == (M1.dev.writes.getD (((at_ : Int) / 8).toNat) 0 : Int))) (by kernel_rfl) (congrArg Value.bool (beq_iff_eq.2 (rfl)))) ?_
                    refine K.RW.qs [.bool true, .bool true, .pointer (some ⟨p_3, 0, none⟩), .pointer (some ⟨r_4, 0, none⟩)] (by kernel_rfl) ?_
                    replace hS : K.Sat w0 [[g, gk, gs, gw, gf, gz].flatten, l1, rg, rp, fr] w := (hS.pick [3, 4, 5, 6, 7, 8, 0, 1, 2, 9]).of
                    have xd_53 : RDevAt ([g, gk, gs, gw, gf, gz].flatten) u_6 n_7 3 M1.dev := ⟨_, _, _, _, _, _, _, _, _, _, _, _, _, _, _, rfl, hg, ok, os, ow, of, lv, oz, dk⟩
                    generalize [g, gk, gs, gw, gf, gz].flatten = ld_54 at hS xd_53
                    replace hS : K.Sat w0 [[rg, rp, ld_54].flatten, l1, fr] w := (hS.pick [2, 3, 0, 1, 4]).of
                    have xr_55 : RMemAt ([rg, rp, ld_54].flatten) r_4 u_6 n_7 3 M1 := ⟨_, _, _, _, _, _, rfl, hrg, hrp, xd_53, hrnp, hrn18⟩
                    generalize [rg, rp, ld_54].flatten = lr_56 at hS xr_55
                    refine K.RW.l (by kernel_rfl) (K.OW.gcall hS [1, 0] [2] [.pointer (some ⟨p_3, 0, none⟩), .pointer (some ⟨r_4, 0, none⟩)] (same7_ok _ _ _ _ _ _ _ _ _ _ x_21 xr_55) ?_)
                    clear hS; rintro _ _ w ⟨rfl, rfl⟩ hS
                    replace hS : K.Sat w0 [l1, lr_56, fr] w := hS
                    refine K.RW.qs [.bool true, .bool true] (by kernel_rfl) ?_
                    refine K.RW.nil ?_
                    refine K.thn_normal ?_
                    refine K.KW.ret ?_
                    refine ⟨.inr rfl, rfl, (.bool true), K.res1 rfl rfl, [], ?_, hS.pick [2]⟩
                    exact rfl
                  ·
                    exfalso; omega
                ·  -- no
                  refine K.RW.q rfl (by kernel_rfl) (K.QR.nice (v := .bool (decide ((at_ : Int) < (((xs.length : Nat) : Int) : Int)))) (by kernel_rfl) (congrArg Value.bool (decide_eq_false h_48))) ?_
                  refine K.RW.qs [.bool false] (by kernel_rfl) ?_
                  refine K.RW.nil ?_
                  refine K.thn_normal ?_
                  refine K.KW.ifF rfl ?_
                  refine K.KW.skip ?_
                  refine K.thn_normal ?_
                  refine K.KW.seq ?_
                  -- 17 :126
                  refine K.KW.region ?_
                  refine K.RW.l rfl (K.OW.gcall hS [] [0, 1, 2] [] (awake07_ok _) ?_)
                  clear hS; rintro _ _ w ⟨rfl, rfl⟩ hS
                  replace hS : K.Sat w0 [m1, l1, fr] w := hS
                  refine K.RW.qs [.bool true, .int .u64 0, .int .u64 0, .bool true, .bool true, .bool true, .bool false, .bool false, .bool true, .bool true, .bool true, .pointer (some ⟨p_3, 0, none⟩)] (by kernel_rfl) ?_
                  refine K.RW.l (by kernel_rfl) (K.OW.gcall hS [1] [0, 2] [.pointer (some ⟨p_3, 0, none⟩)] (mClock_ok _ _ _ _ _ _ _ x_21 ) ?_)
                  clear hS; rintro _ _ w ⟨rfl, rfl⟩ hS
                  replace hS : K.Sat w0 [l1, m1, fr] w := hS
                  refine K.RW.qs [.int .i64 M1.clock] (by kernel_rfl) ?_
                  refine K.RW.q rfl (by kernel_rfl) (K.QR.nice (v := .bool ((M1.clock : Int) == (M1.clock : Int))) (by kernel_rfl) (congrArg Value.bool (beq_iff_eq.2 rfl))) ?_
                  refine K.RW.qs [.bool true, .bool true, .pointer (some ⟨p_3, 0, none⟩), .int .i64 at_] (by kernel_rfl) ?_
                  refine K.RW.l (by kernel_rfl) (K.OW.gcall hS [0] [1, 2] [.pointer (some ⟨p_3, 0, none⟩), .int .i64 at_] (mWrites_ok _ _ _ _ _ _ _ x_21 at_ (by omega)) ?_)
                  clear hS; rintro _ _ w ⟨rfl, (⟨rfl, h_57⟩ | ⟨rfl, h_58⟩)⟩ hS
                  ·
                    exfalso; omega
                  ·
                    replace hS : K.Sat w0 [l1, m1, fr] w := hS
                    refine K.RW.qs [.int .i64 0, .bool true, .bool true, .bool true, .pointer (some ⟨p_3, 0, none⟩), .pointer (some ⟨r_4, 0, none⟩)] (by kernel_rfl) ?_
                    refine K.RW.l (by kernel_rfl) (K.OW.gcall hS [0, 1] [2] [.pointer (some ⟨p_3, 0, none⟩), .pointer (some ⟨r_4, 0, none⟩)] (same7_ok _ _ _ _ _ _ _ _ _ _ x_21 x_22) ?_)
                    clear hS; rintro _ _ w ⟨rfl, rfl⟩ hS
                    replace hS : K.Sat w0 [l1, m1, fr] w := hS
                    refine K.RW.qs [.bool true, .bool true] (by kernel_rfl) ?_
                    refine K.RW.nil ?_
                    refine K.thn_normal ?_
                    refine K.KW.ret ?_
                    refine ⟨.inr rfl, rfl, (.bool true), K.res1 rfl rfl, [], ?_, hS.pick [2]⟩
                    exact rfl
              ·  -- no
                refine K.RW.q rfl rfl (K.QR.nice (v := .bool (decide ((at_ : Int) ≥ (0 : Int)))) (by kernel_rfl) (congrArg Value.bool (decide_eq_false h_47))) ?_
                refine K.RW.qs [.bool false] (by kernel_rfl) ?_
                refine K.RW.skip rfl (by kernel_rfl) ?_
                refine K.RW.skip rfl (by kernel_rfl) ?_
                refine K.RW.skip rfl (by kernel_rfl) ?_
                refine K.RW.skip rfl (by kernel_rfl) ?_
                refine K.RW.qs [.bool false] (by kernel_rfl) ?_
                refine K.RW.nil ?_
                refine K.thn_normal ?_
                refine K.KW.ifF rfl ?_
                refine K.KW.skip ?_
                refine K.thn_normal ?_
                refine K.KW.seq ?_
                -- 17 :126
                refine K.KW.region ?_
                refine K.RW.l rfl (K.OW.gcall hS [] [0, 1, 2] [] (awake07_ok _) ?_)
                clear hS; rintro _ _ w ⟨rfl, rfl⟩ hS
                replace hS : K.Sat w0 [m1, l1, fr] w := hS
                refine K.RW.qs [.bool true, .int .u64 0, .int .u64 0, .bool true, .bool true, .bool true, .bool false, .bool false, .bool true, .bool true, .bool true, .pointer (some ⟨p_3, 0, none⟩)] (by kernel_rfl) ?_
                refine K.RW.l (by kernel_rfl) (K.OW.gcall hS [1] [0, 2] [.pointer (some ⟨p_3, 0, none⟩)] (mClock_ok _ _ _ _ _ _ _ x_21 ) ?_)
                clear hS; rintro _ _ w ⟨rfl, rfl⟩ hS
                replace hS : K.Sat w0 [l1, m1, fr] w := hS
                refine K.RW.qs [.int .i64 M1.clock] (by kernel_rfl) ?_
                refine K.RW.q rfl (by kernel_rfl) (K.QR.nice (v := .bool ((M1.clock : Int) == (M1.clock : Int))) (by kernel_rfl) (congrArg Value.bool (beq_iff_eq.2 rfl))) ?_
                refine K.RW.qs [.bool true, .bool true, .pointer (some ⟨p_3, 0, none⟩), .int .i64 at_] (by kernel_rfl) ?_
                refine K.RW.l (by kernel_rfl) (K.OW.gcall hS [0] [1, 2] [.pointer (some ⟨p_3, 0, none⟩), .int .i64 at_] (mWrites_ok _ _ _ _ _ _ _ x_21 at_ (by omega)) ?_)
                clear hS; rintro _ _ w ⟨rfl, (⟨rfl, h_59⟩ | ⟨rfl, h_60⟩)⟩ hS
                ·
                  exfalso; omega
                ·
                  replace hS : K.Sat w0 [l1, m1, fr] w := hS
                  refine K.RW.qs [.int .i64 0, .bool true, .bool true, .bool true, .pointer (some ⟨p_3, 0, none⟩), .pointer (some ⟨r_4, 0, none⟩)] (by kernel_rfl) ?_
                  refine K.RW.l (by kernel_rfl) (K.OW.gcall hS [0, 1] [2] [.pointer (some ⟨p_3, 0, none⟩), .pointer (some ⟨r_4, 0, none⟩)] (same7_ok _ _ _ _ _ _ _ _ _ _ x_21 x_22) ?_)
                  clear hS; rintro _ _ w ⟨rfl, rfl⟩ hS
                  replace hS : K.Sat w0 [l1, m1, fr] w := hS
                  refine K.RW.qs [.bool true, .bool true] (by kernel_rfl) ?_
                  refine K.RW.nil ?_
                  refine K.thn_normal ?_
                  refine K.KW.ret ?_
                  refine ⟨.inr rfl, rfl, (.bool true), K.res1 rfl rfl, [], ?_, hS.pick [2]⟩
                  exact rfl
      ·
        replace hS : K.Sat w0 [fr] w := hS
        refine K.RW.qs [.tuple #[.pointer none, .pointer none, .bool false], .pointer none, .pointer none, .bool false, .pointer none, .pointer none, .bool false] (by kernel_rfl) ?_
        refine K.RW.nil ?_
        refine K.thn_normal ?_
        refine K.KW.seq ?_
        refine K.KW.seq ?_
        -- 4 :112
        refine K.KW.region ?_
        refine K.RW.qs [.bool false, .bool true] (by kernel_rfl) ?_
        refine K.RW.nil ?_
        refine K.thn_normal ?_
        refine K.KW.ifT rfl ?_
        refine K.KW.seq ?_
        -- 5 :113
        refine K.KW.region ?_
        refine K.RW.l rfl (K.OW.gcall hS [] [0] [] (awake07_ok _) ?_)
        clear hS; rintro _ _ w ⟨rfl, rfl⟩ hS
        replace hS : K.Sat w0 [fr] w := hS
        refine K.RW.qs [.bool true] (by kernel_rfl) ?_
        refine K.RW.nil ?_
        refine K.thn_normal ?_
        refine K.KW.ret ?_
        refine K.thn_ret ?_
        refine ⟨.inr rfl, rfl, (.bool true), K.res1 rfl rfl, [], ?_, hS.pick [0]⟩
        exact rfl

end Go.Proofs.Ytgeihjiichdpbaa
