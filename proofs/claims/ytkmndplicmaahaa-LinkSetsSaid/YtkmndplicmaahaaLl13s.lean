/- The statement LinkSets. -/
import Derived.Test.YtkmndplicmaahaaFl13
import Derived.Test.YtkmndplicmaahaaKn
namespace Go.Proofs.Ytkmndplicmaahaa
open Go.RowKit
set_option linter.unusedVariables false
attribute [local irreducible] K.KW K.RW K.DW K.OW K.QR K.KC
set_option maxHeartbeats 1000000 in
set_option maxRecDepth 100000 in
theorem l13sets_ok (w0 : World) (c : Cfg) (pa : Option Addr) (cp : Nat) (ps : List PutM) (hg : ∀ j, j < ps.length → isInt (ps.getD j pu0).at_ ∧ isW (ps.getD j pu0).w) (hxp : K.RowE w0 pa ps.length 2 (fun i => cPut (ps.getD i pu0))) (tt ii oo ww : Int) (htt : isInt tt) (hii : isInt ii) (hoo : isW oo) (hww : isW ww) (b : Option Addr) (cap2 : Nat) (ls : List PokeM) (hk : ∀ j, j < ls.length → (ls.getD j pk0).act.good ∧ isW (ls.getD j pk0).act.w) (hl : ls.length ≤ 9223372036854775807) (hy : K.RowE w0 b ls.length 6 (fun i => cPoke (ls.getD i pk0))) :
  K.GC Try.prog w0 10 #[.agg #[.int .i64 c.th, .int .i64 c.sl, .int .i64 c.lo, .int .i64 c.bu, .slice pa ps.length cp], .agg #[.int .i64 tt, .int .i64 ii, .int .u64 oo, .int .u64 ww], .slice b ls.length cap2] [] (fun v post => v = .bool true) := by
 refine K.GC.mk (n := 128) Try.func10 rfl rfl [.agg #[.int .i64 c.th, .int .i64 c.sl, .int .i64 c.lo, .int .i64 c.bu, .slice pa ps.length cp], .agg #[.int .i64 tt, .int .i64 ii, .int .u64 oo, .int .u64 ww], .slice b ls.length cap2] rfl rfl ?_
 intro fr w hS
 replace hS : K.Sat w0 [fr] w := hS
 refine K.s (K.g ?_)
 refine K.l (K.OW.gnew 38 [.int .i64 c.th, .int .i64 c.sl, .int .i64 c.lo, .int .i64 c.bu, .slice pa ps.length cp] hS ?_)
 clear hS; intro w r_1 g_2 hg_3 hS
 refine K.l (K.OW.gnew 98 [.int .i64 tt, .int .i64 ii, .int .u64 oo, .int .u64 ww] hS ?_)
 clear hS; intro w r_4 g_5 hg_6 hS
 refine K.q [.bool false] (K.z (K.t (K.s (K.g ?_))))
 refine K.a (K.QR.ldN [.int .i64 c.th, .int .i64 c.sl, .int .i64 c.lo, .int .i64 c.bu, .slice pa ps.length cp] rfl rfl (by kernel_rfl) (by kernel_rfl) (K.cells (K.cl ((hS.blk 1 rfl hg_3).cell rfl) (K.cl ((hS.blk 1 rfl hg_3).cell rfl) (K.cl ((hS.blk 1 rfl hg_3).cell rfl) (K.cl ((hS.blk 1 rfl hg_3).cell rfl) (K.cl ((hS.blk 1 rfl hg_3).cell rfl) K.cl0))))))) ?_
 refine K.l (K.OW.gcall hS [53] [0, 1, 2] [.agg #[.int .i64 c.th, .int .i64 c.sl, .int .i64 c.lo, .int .i64 c.bu, .slice pa ps.length cp]] (lay_ok _ c _ _ ps (fun j hj => (hg j hj).1) _ (fun w h => hxp.no h.chg)) ?_)
 clear hS; rintro _ _ w (⟨b_7, p_8, q_9, r_10, u_11, _, _, gl_12, l_13, m_14, rfl, rfl, hl_15, x_16, y_17, rfl, rfl, hf_18, hp_19⟩ | ⟨rfl, rfl, h_20⟩) hS
 ·
  replace hS : K.Sat w0 [gl_12, l_13, m_14, g_5, g_2, fr] w := hS.of (by simp [K.pick, K.nth])
  have hc : cfgOk c := hf_18.1
  obtain ⟨hfa, hfb⟩ : (((1 ≤ c.th ∧ c.th ≤ 64) ∧ (1 ≤ c.sl ∧ c.sl ≤ 65536) ∧ (1 ≤ c.lo ∧ c.lo ≤ 64) ∧ (1 ≤ c.bu ∧ c.bu ≤ 64)) ∧ (c.th ≤ 6 ∧ c.sl ≤ 30 ∧ c.lo ≤ 8 ∧ c.bu ≤ 8)) := (by have h := hf_18; unfold fewC cfgOk at h; exact h)
  have hM : (groundM ((lns c).toNat) (c.th.toNat) (2 + c.th + c.sl).toNat ps).good := ground_good (fun j hj => (hg j hj).2)
  have hP : (((groundM ((lns c).toNat) (c.th.toNat) (2 + c.th + c.sl).toNat ps).pass.length : Nat) : Int) = 2 + c.th + c.sl := by rw [ground_pass]; omega
  refine K.q [.tuple #[.pointer (some ⟨b_7, 0, none⟩), .pointer (some ⟨p_8, 0, none⟩), .pointer (some ⟨r_10, 0, none⟩), .bool true], .pointer (some ⟨b_7, 0, none⟩), .pointer (some ⟨p_8, 0, none⟩), .pointer (some ⟨r_10, 0, none⟩), .bool true, .pointer (some ⟨b_7, 0, none⟩), .pointer (some ⟨p_8, 0, none⟩), .pointer (some ⟨r_10, 0, none⟩), .bool true] (K.z (K.t (K.s (K.s (K.g (K.q [.bool true, .bool false, .bool false, .slice b ls.length cap2] ?_))))))
  refine K.a (K.QR.len (P := Try.prog) rfl rfl Try.underlying83) ?_
  by_cases h_21 : (((ls.length : Nat) : Int) : Int) > (60 : Int)
  ·
   refine K.y ((((ls.length : Nat) : Int) : Int) > (60 : Int)) h_21 ?_
   refine K.q [.bool true] (K.z (K.t (K.h (K.s (K.g ?_)))))
   refine K.l (K.OW.gcall hS [] [0, 1, 2, 3, 4, 5] [] (awake13_ok _) ?_)
   clear hS; rintro _ _ w ⟨rfl, rfl⟩ hS
   replace hS : K.Sat w0 [gl_12, l_13, m_14, g_5, g_2, fr] w := hS
   refine K.q [.bool true] (K.z (K.t (K.r (K.u ?_))))
   refine ⟨.inr rfl, rfl, (.bool true), K.res1 rfl rfl, [], ?_, hS.pick [5]⟩
   exact rfl
  ·
   refine K.x ((((ls.length : Nat) : Int) : Int) > (60 : Int)) h_21 ?_
   refine K.q [.bool false] (K.z (K.t (K.f (K.k (K.t (K.s ?_))))))
   refine K.KW.gdrawn [3] hS (by kernel_rfl) ?_
   clear hS; intro w hS
   refine K.p 0 rfl (.pointer (some ⟨r_4, 0, none⟩)) (hS.pick [3]) ?_
   refine K.o_ 1 rfl (.int .i64 tt) (fun w hS => ((hS.blk 0 rfl hg_6).cell rfl)) (hS.pick [3]) ?_
   refine K.p 2 rfl (.pointer (some ⟨r_4, 1, none⟩)) (hS.pick [3]) ?_
   refine K.o_ 3 rfl (.int .i64 ii) (fun w hS => ((hS.blk 0 rfl hg_6).cell rfl)) (hS.pick [3]) ?_
   refine K.p 4 rfl (.pointer (some ⟨r_4, 2, none⟩)) (hS.pick [3]) ?_
   refine K.o_ 5 rfl (.int .u64 oo) (fun w hS => ((hS.blk 0 rfl hg_6).cell rfl)) (hS.pick [3]) ?_
   refine K.p 6 rfl (.pointer (some ⟨r_4, 3, none⟩)) (hS.pick [3]) ?_
   refine K.o_ 7 rfl (.int .u64 ww) (fun w hS => ((hS.blk 0 rfl hg_6).cell rfl)) (hS.pick [3]) ?_
   refine K.p 9 rfl (.pointer (some ⟨r_4, 0, none⟩)) (hS.pick [3]) ?_
   refine K.o_ 10 rfl (.int .i64 tt) (fun w hS => ((hS.blk 0 rfl hg_6).cell rfl)) (hS.pick [3]) ?_
   refine K.p 11 rfl (.pointer (some ⟨r_4, 1, none⟩)) (hS.pick [3]) ?_
   refine K.o_ 12 rfl (.int .i64 ii) (fun w hS => ((hS.blk 0 rfl hg_6).cell rfl)) (hS.pick [3]) ?_
   refine K.p 13 rfl (.pointer (some ⟨r_4, 2, none⟩)) (hS.pick [3]) ?_
   refine K.o_ 14 rfl (.int .u64 oo) (fun w hS => ((hS.blk 0 rfl hg_6).cell rfl)) (hS.pick [3]) ?_
   refine K.p 15 rfl (.pointer (some ⟨r_4, 3, none⟩)) (hS.pick [3]) ?_
   refine K.o_ 16 rfl (.int .u64 ww) (fun w hS => ((hS.blk 0 rfl hg_6).cell rfl)) (hS.pick [3]) ?_
   refine K.DW.l 8 rfl (by kernel_rfl) rfl (K.OW.gcall hS [] [0, 1, 2, 3, 4, 5] [.int .i64 tt, .int .i64 ii, .int .u64 oo, .int .u64 ww] (newse_ok _ tt (by first | omega | assumption) ii (by first | omega | assumption) oo (by first | assumption | exact isL.w (by assumption) | (unfold isW; omega) | exact rdWord_w (by assumption)) ww (by first | assumption | exact isL.w (by assumption) | (unfold isW; omega) | exact rdWord_w (by assumption))) ?_)
   clear hS; rintro _ _ w ⟨p_22, g_23, rfl, rfl, h_24⟩ hS
   replace hS : K.Sat w0 [g_23, gl_12, l_13, m_14, g_5, g_2, fr] w := hS
   have hS_25 : SeS.good (⟨tt, ii, 0, (cleanI ww), -1, (cleanI oo), false, 0⟩ : SeS) := seInit (by omega) (by omega)
   refine ⟨.inl (hS.pick [4]), ?_⟩
   refine K.DW.l 17 rfl (by kernel_rfl) rfl (K.OW.gcall hS [] [0, 1, 2, 3, 4, 5, 6] [.int .i64 tt, .int .i64 ii, .int .u64 oo, .int .u64 ww] (newrse_ok _ tt (by first | omega | assumption) ii (by first | omega | assumption) oo (by first | assumption | exact isL.w (by assumption) | (unfold isW; omega) | exact rdWord_w (by assumption)) ww (by first | assumption | exact isL.w (by assumption) | (unfold isW; omega) | exact rdWord_w (by assumption))) ?_)
   clear hS; rintro _ _ w ⟨p_26, g_27, rfl, rfl, h_28⟩ hS
   replace hS : K.Sat w0 [g_27, g_23, gl_12, l_13, m_14, g_5, g_2, fr] w := hS
   refine ⟨.inl (hS.pick [5]), ?_⟩
   refine K.b 18 rfl (.pointer (some ⟨p_22, 0, none⟩)) (hS.pick [5]) ?_
   refine K.b 19 rfl (.pointer (some ⟨p_26, 0, none⟩)) (hS.pick [5]) ?_
   refine K.DW.done (by kernel_rfl) ?_
   refine K.t (K.s (K.s (K.g (K.q [.int .i64 0] (K.z (K.t ?_))))))
   refine K.KW.block ?_
   refine K.KW.loop (fun m_ F_ w_ => ∃ (j : Nat) (S : SeS) (M : MemM) (g1 : K.Cs) (h1 : K.Cs) (l1 : K.Cs) (m1 : K.Cs), m_ = ls.length - j ∧ K.Sl F_ [(0, .agg #[.int .i64 c.th, .int .i64 c.sl, .int .i64 c.lo, .int .i64 c.bu, .slice pa ps.length cp]), (1, .agg #[.int .i64 tt, .int .i64 ii, .int .u64 oo, .int .u64 ww]), (2, .slice b ls.length cap2), (8, .pointer (some ⟨p_8, 0, none⟩)), (9, .pointer (some ⟨r_10, 0, none⟩)), (11, .pointer (some ⟨p_22, 0, none⟩)), (12, .pointer (some ⟨p_26, 0, none⟩)), (13, .int .i64 ((j : Nat) : Int)), (128, undef)] ∧ j ≤ ls.length ∧ S.good ∧ M.good ∧ g1 = [K.pt p_22 132 [.int .i64 S.t, .int .i64 S.at_, .int .i64 S.pc, .int .u64 S.word, .int .i64 S.when_, .int .u64 S.old, .bool S.put, .int .i64 S.writes]] ∧ h1 = [K.pt p_26 102 [.int .i64 S.t, .int .i64 S.at_, .int .i64 (lineL S.pc), .int .u64 S.old, .int .u64 S.word, .bool S.put, .int .i64 S.when_, .int .i64 S.writes]] ∧ MemAt l1 p_8 q_9 ((lns c).toNat) (c.th.toNat) M ∧ RMemAt m1 r_10 u_11 ((lns c).toNat) (c.th.toNat) M ∧ K.Sat w0 [h1, g1, gl_12, l1, m1, g_5, g_2, fr] w_) ((fun (j : Nat) (S : SeS) (M : MemM) => ls.length - j) 0 ⟨tt, ii, 0, (cleanI ww), -1, (cleanI oo), false, 0⟩ (groundM ((lns c).toNat) (c.th.toNat) (2 + c.th + c.sl).toNat ps)) ?_ ?_
   ·
    exact ⟨0, ⟨tt, ii, 0, (cleanI ww), -1, (cleanI oo), false, 0⟩, (groundM ((lns c).toNat) (c.th.toNat) (2 + c.th + c.sl).toNat ps), g_23, g_27, l_13, m_14, rfl, ⟨by rfl, by rfl, by rfl, by rfl, by rfl, by rfl, by rfl, by rfl, by rfl, trivial⟩, (by omega), (seInit (by omega) (by omega)), (hM), h_24, h_28, x_16, y_17, hS.pick [0, 1, 2, 3, 4, 5, 6, 7]⟩
   ·
    clear hS
    intro m_29 F_30 w hI
    obtain ⟨j, S, M, g1, h1, l1, m1, rfl, sl_31, p_32, p_33, p_34, x_35, x_36, x_37, x_38, hS⟩ := hI
    rw [← K.Sl.puts sl_31]; clear sl_31
    refine K.s (K.s (K.g (K.q [.int .i64 ((j : Nat) : Int), .slice b ls.length cap2] ?_)))
    refine K.a (K.QR.len (P := Try.prog) rfl rfl Try.underlying83) ?_
    by_cases h_39 : (((j : Nat) : Int) : Int) < (((ls.length : Nat) : Int) : Int)
    ·
     refine K.y ((((j : Nat) : Int) : Int) < (((ls.length : Nat) : Int) : Int)) h_39 ?_
     refine K.z (K.t (K.h (K.k (K.t (K.s ?_)))))
     refine K.KW.block ?_
     refine K.s (K.s ?_)
     obtain ⟨b_40, of_41, rfl, _⟩ := hy.at_ (by omega)
     refine K.g (K.q [.slice (some ⟨b_40, of_41, none⟩) ls.length cap2, .int .i64 ((j : Nat) : Int)] ?_)
     refine K.a (K.QR.ix (of_41 + j * 6) 6 rfl rfl rfl Try.underlying83 (by kernel_rfl) (by omega) (by first | (simp; done) | omega | (simp; omega))) ?_
     refine K.q [.pointer (some ⟨b_40, of_41 + j * 6, none⟩)] ?_
     refine K.d (.bool ((ls.getD j pk0).step)) ((hy.no hS.chg).ld j (by omega) 0 _ rfl) ?_
     cases hb_42 : (ls.getD j pk0).step
     ·
      refine K.z (K.t (K.f (K.s (K.g (K.q [.pointer (some ⟨p_8, 0, none⟩), .slice (some ⟨b_40, of_41, none⟩) ls.length cap2, .int .i64 ((j : Nat) : Int)] ?_)))))
      refine K.a (K.QR.ix (of_41 + j * 6) 6 rfl rfl rfl Try.underlying83 (by kernel_rfl) (by omega) (by first | (simp; done) | omega | (simp; omega))) ?_
      refine K.q [.pointer (some ⟨b_40, of_41 + j * 6 + 1, none⟩)] ?_
      refine K.a (K.QR.ldN [.int .i64 ((ls.getD j pk0).act.kind), .int .i64 ((ls.getD j pk0).act.thread), .int .i64 ((ls.getD j pk0).act.at_), .int .u64 ((ls.getD j pk0).act.old), .int .u64 ((ls.getD j pk0).act.w)] rfl rfl (by kernel_rfl) (by kernel_rfl) (K.cells (K.cl ((hy.no hS.chg).ld j (by omega) 1 _ rfl) (K.cl ((hy.no hS.chg).ld j (by omega) 2 _ rfl) (K.cl ((hy.no hS.chg).ld j (by omega) 3 _ rfl) (K.cl ((hy.no hS.chg).ld j (by omega) 4 _ rfl) (K.cl ((hy.no hS.chg).ld j (by omega) 5 _ rfl) K.cl0))))))) ?_
      refine K.l (K.OW.gcall hS [3] [0, 1, 2, 4, 5, 6, 7] [.pointer (some ⟨p_8, 0, none⟩), .agg #[.int .i64 ((ls.getD j pk0).act.kind), .int .i64 ((ls.getD j pk0).act.thread), .int .i64 ((ls.getD j pk0).act.at_), .int .u64 ((ls.getD j pk0).act.old), .int .u64 ((ls.getD j pk0).act.w)]] (do7_ok _ _ _ _ _ _ _ x_37 (ls.getD j pk0).act (hk j (by omega)).1) ?_)
      clear hS; rintro _ _ w ⟨l_43, rfl, rfl, x_44⟩ hS
      replace hS : K.Sat w0 [l_43, h1, g1, gl_12, m1, g_5, g_2, fr] w := hS
      have hM_45 : (act7 M ((lns c).toNat) (c.th.toNat) (ls.getD j pk0).act).good := act7_good (by assumption) (hk j (by omega)).2
      refine K.z (K.t (K.g (K.q [.pointer (some ⟨r_10, 0, none⟩), .slice (some ⟨b_40, of_41, none⟩) ls.length cap2, .int .i64 ((j : Nat) : Int)] ?_)))
      refine K.a (K.QR.ix (of_41 + j * 6) 6 rfl rfl rfl Try.underlying83 (by kernel_rfl) (by omega) (by first | (simp; done) | omega | (simp; omega))) ?_
      refine K.q [.pointer (some ⟨b_40, of_41 + j * 6 + 1, none⟩)] ?_
      refine K.a (K.QR.ldN [.int .i64 ((ls.getD j pk0).act.kind), .int .i64 ((ls.getD j pk0).act.thread), .int .i64 ((ls.getD j pk0).act.at_), .int .u64 ((ls.getD j pk0).act.old), .int .u64 ((ls.getD j pk0).act.w)] rfl rfl (by kernel_rfl) (by kernel_rfl) (K.cells (K.cl ((hy.no hS.chg).ld j (by omega) 1 _ rfl) (K.cl ((hy.no hS.chg).ld j (by omega) 2 _ rfl) (K.cl ((hy.no hS.chg).ld j (by omega) 3 _ rfl) (K.cl ((hy.no hS.chg).ld j (by omega) 4 _ rfl) (K.cl ((hy.no hS.chg).ld j (by omega) 5 _ rfl) K.cl0))))))) ?_
      refine K.l (K.OW.gcall hS [4] [0, 1, 2, 3, 5, 6, 7] [.pointer (some ⟨r_10, 0, none⟩), .agg #[.int .i64 ((ls.getD j pk0).act.kind), .int .i64 ((ls.getD j pk0).act.thread), .int .i64 ((ls.getD j pk0).act.at_), .int .u64 ((ls.getD j pk0).act.old), .int .u64 ((ls.getD j pk0).act.w)]] (must7_ok _ _ _ _ _ _ _ x_38 (ls.getD j pk0).act (hk j (by omega)).1) ?_)
      clear hS; rintro _ _ w ⟨l_46, rfl, rfl, x_47⟩ hS
      replace hS : K.Sat w0 [l_46, l_43, h1, g1, gl_12, g_5, g_2, fr] w := hS
      refine K.z (K.t (K.s ?_))
      cases hb_48 : S.done
      ·
       refine K.KW.gdrawn [2] hS (by kernel_rfl) ?_
       clear hS; intro w hS
       refine K.p 0 rfl (.pointer (some ⟨p_8, 0, none⟩)) (hS.pick [2]) ?_
       refine K.b 1 rfl (.pointer (some ⟨r_10, 0, none⟩)) (hS.pick [2]) ?_
       refine K.DW.l 2 rfl (by kernel_rfl) rfl (K.OW.gcall hS [1, 0] [2, 3, 4, 5, 6, 7] [.pointer (some ⟨p_8, 0, none⟩), .pointer (some ⟨r_10, 0, none⟩)] (same7_ok _ _ _ _ _ _ _ _ _ _ x_44 x_47) ?_)
       clear hS; rintro _ _ w ⟨rfl, rfl⟩ hS
       replace hS : K.Sat w0 [l_43, l_46, h1, g1, gl_12, g_5, g_2, fr] w := hS
       refine ⟨.inl (hS.pick [2]), ?_⟩
       refine K.b 3 rfl (.bool false) (hS.pick [2]) ?_
       refine K.b 4 rfl (.bool false) (hS.pick [2]) ?_
       refine K.p 5 rfl (.pointer (some ⟨p_22, 0, none⟩)) (hS.pick [2]) ?_
       refine K.p 7 rfl (.pointer (some ⟨p_26, 0, none⟩)) (hS.pick [2]) ?_
       refine K.p 8 rfl (.pointer (some ⟨p_26, 0, none⟩)) (hS.pick [2]) ?_
       refine K.p 9 rfl (.pointer (some ⟨p_26, 2, none⟩)) (hS.pick [2]) ?_
       refine K.o_ 10 rfl (.int .i64 (lineL S.pc)) (fun w hS => ((hS.blk 0 rfl x_36).cell rfl)) (hS.pick [2]) ?_
       refine K.m 11 rfl (fun w hS => K.QR.nice (v := .bool (((lineL S.pc) : Int) == (0 : Int))) (by kernel_rfl) (congrArg Value.bool (beq_eq_false_iff_ne.2 (sline_f hb_48 (by assumption))))) (hS.pick [2]) ?_
       refine K.DW.l 6 rfl (by kernel_rfl) (by kernel_rfl) (K.OW.gcall hS [3] [0, 1, 2, 4, 5, 6, 7] [.pointer (some ⟨p_22, 0, none⟩)] (seDoneB_ok _ _ S _ x_35) ?_)
       clear hS; rintro _ _ w ⟨rfl, rfl⟩ hS
       replace hS : K.Sat w0 [g1, l_43, l_46, h1, gl_12, g_5, g_2, fr] w := hS
       refine ⟨.inl (hS.pick [3]), ?_⟩
       cases hb_49 : S.done
       ·
        refine K.b 12 rfl (.bool false) (hS.pick [3]) ?_
        refine K.b 13 rfl (.bool false) (hS.pick [3]) ?_
        refine K.b 14 rfl (.bool false) (hS.pick [3]) ?_
        refine K.p 15 rfl (.pointer (some ⟨p_22, 0, none⟩)) (hS.pick [3]) ?_
        refine K.p 17 rfl (.pointer (some ⟨p_26, 0, none⟩)) (hS.pick [3]) ?_
        refine K.p 18 rfl (.pointer (some ⟨p_26, 0, none⟩)) (hS.pick [3]) ?_
        refine K.p 19 rfl (.pointer (some ⟨p_26, 5, none⟩)) (hS.pick [3]) ?_
        refine K.o_ 20 rfl (.bool S.put) (fun w hS => ((hS.blk 0 rfl x_36).cell rfl)) (hS.pick [3]) ?_
        refine K.DW.l 16 rfl (by kernel_rfl) (by kernel_rfl) (K.OW.gcall hS [0] [1, 2, 3, 4, 5, 6, 7] [.pointer (some ⟨p_22, 0, none⟩)] (sePut_ok _ _ S _ x_35) ?_)
        clear hS; rintro _ _ w ⟨rfl, rfl⟩ hS
        replace hS : K.Sat w0 [g1, l_43, l_46, h1, gl_12, g_5, g_2, fr] w := hS
        refine ⟨.inl (hS.pick [3]), ?_⟩
        cases hb_50 : S.put
        ·
         refine K.b 21 rfl (.bool false) (hS.pick [3]) ?_
         refine K.b 22 rfl (.bool false) (hS.pick [3]) ?_
         refine K.b 23 rfl (.bool false) (hS.pick [3]) ?_
         refine K.p 24 rfl (.pointer (some ⟨p_22, 0, none⟩)) (hS.pick [3]) ?_
         refine K.p 26 rfl (.pointer (some ⟨p_26, 0, none⟩)) (hS.pick [3]) ?_
         refine K.p 27 rfl (.pointer (some ⟨p_26, 0, none⟩)) (hS.pick [3]) ?_
         refine K.p 28 rfl (.pointer (some ⟨p_26, 6, none⟩)) (hS.pick [3]) ?_
         refine K.o_ 29 rfl (.int .i64 S.when_) (fun w hS => ((hS.blk 0 rfl x_36).cell rfl)) (hS.pick [3]) ?_
         refine K.DW.l 25 rfl (by kernel_rfl) (by kernel_rfl) (K.OW.gcall hS [0] [1, 2, 3, 4, 5, 6, 7] [.pointer (some ⟨p_22, 0, none⟩)] (seWhen_ok _ _ S _ x_35) ?_)
         clear hS; rintro _ _ w ⟨rfl, rfl⟩ hS
         replace hS : K.Sat w0 [g1, l_43, l_46, h1, gl_12, g_5, g_2, fr] w := hS
         refine ⟨.inl (hS.pick [3]), ?_⟩
         refine K.c 30 rfl (K.QR.nice (v := .bool ((S.when_ : Int) != (S.when_ : Int))) (by kernel_rfl) (congrArg Value.bool (bne_eq_false_iff_eq.2 (rfl)))) (hS.pick [3]) ?_
         refine K.b 31 rfl (.bool false) (hS.pick [3]) ?_
         refine K.b 32 rfl (.bool false) (hS.pick [3]) ?_
         refine K.p 33 rfl (.pointer (some ⟨p_22, 0, none⟩)) (hS.pick [3]) ?_
         refine K.p 35 rfl (.pointer (some ⟨p_26, 0, none⟩)) (hS.pick [3]) ?_
         refine K.p 36 rfl (.pointer (some ⟨p_26, 0, none⟩)) (hS.pick [3]) ?_
         refine K.p 37 rfl (.pointer (some ⟨p_26, 7, none⟩)) (hS.pick [3]) ?_
         refine K.o_ 38 rfl (.int .i64 S.writes) (fun w hS => ((hS.blk 0 rfl x_36).cell rfl)) (hS.pick [3]) ?_
         refine K.DW.l 34 rfl (by kernel_rfl) (by kernel_rfl) (K.OW.gcall hS [0] [1, 2, 3, 4, 5, 6, 7] [.pointer (some ⟨p_22, 0, none⟩)] (seWrites_ok _ _ S _ x_35) ?_)
         clear hS; rintro _ _ w ⟨rfl, rfl⟩ hS
         replace hS : K.Sat w0 [g1, l_43, l_46, h1, gl_12, g_5, g_2, fr] w := hS
         refine ⟨.inl (hS.pick [3]), ?_⟩
         refine K.c 39 rfl (K.QR.nice (v := .bool ((S.writes : Int) != (S.writes : Int))) (by kernel_rfl) (congrArg Value.bool (bne_eq_false_iff_eq.2 (rfl)))) (hS.pick [3]) ?_
         refine K.b 40 rfl (.bool false) (hS.pick [3]) ?_
         refine K.DW.done (by kernel_rfl) ?_
         refine K.t (K.f (K.k ?_))
         refine K.blk_normal ?_
         refine K.t (K.g (K.q [.int .i64 ((j : Nat) : Int)] ?_))
         refine K.a (K.QR.n64 ((((j : Nat) : Int) : Int) + (1 : Int)) ((j + 1 : Nat) : Int) (by kernel_rfl) (by omega)) ?_
         refine K.q [.int .i64 ((j + 1 : Nat) : Int)] (K.z (K.t ?_))
         refine ⟨_, ?_, j + 1, S, (act7 M ((lns c).toNat) (c.th.toNat) (ls.getD j pk0).act), g1, h1, l_43, l_46, rfl, ⟨by rfl, by rfl, by rfl, by rfl, by rfl, by rfl, by rfl, by rfl, by rfl, trivial⟩, (by omega), (by assumption), (by assumption), x_35, x_36, x_44, x_47, hS.pick [3, 0, 4, 1, 2, 5, 6, 7]⟩
         omega
        ·
         refine K.b 21 rfl (.bool false) (hS.pick [3]) ?_
         refine K.b 22 rfl (.bool false) (hS.pick [3]) ?_
         refine K.b 23 rfl (.bool false) (hS.pick [3]) ?_
         refine K.p 24 rfl (.pointer (some ⟨p_22, 0, none⟩)) (hS.pick [3]) ?_
         refine K.p 26 rfl (.pointer (some ⟨p_26, 0, none⟩)) (hS.pick [3]) ?_
         refine K.p 27 rfl (.pointer (some ⟨p_26, 0, none⟩)) (hS.pick [3]) ?_
         refine K.p 28 rfl (.pointer (some ⟨p_26, 6, none⟩)) (hS.pick [3]) ?_
         refine K.o_ 29 rfl (.int .i64 S.when_) (fun w hS => ((hS.blk 0 rfl x_36).cell rfl)) (hS.pick [3]) ?_
         refine K.DW.l 25 rfl (by kernel_rfl) (by kernel_rfl) (K.OW.gcall hS [0] [1, 2, 3, 4, 5, 6, 7] [.pointer (some ⟨p_22, 0, none⟩)] (seWhen_ok _ _ S _ x_35) ?_)
         clear hS; rintro _ _ w ⟨rfl, rfl⟩ hS
         replace hS : K.Sat w0 [g1, l_43, l_46, h1, gl_12, g_5, g_2, fr] w := hS
         refine ⟨.inl (hS.pick [3]), ?_⟩
         refine K.c 30 rfl (K.QR.nice (v := .bool ((S.when_ : Int) != (S.when_ : Int))) (by kernel_rfl) (congrArg Value.bool (bne_eq_false_iff_eq.2 (rfl)))) (hS.pick [3]) ?_
         refine K.b 31 rfl (.bool false) (hS.pick [3]) ?_
         refine K.b 32 rfl (.bool false) (hS.pick [3]) ?_
         refine K.p 33 rfl (.pointer (some ⟨p_22, 0, none⟩)) (hS.pick [3]) ?_
         refine K.p 35 rfl (.pointer (some ⟨p_26, 0, none⟩)) (hS.pick [3]) ?_
         refine K.p 36 rfl (.pointer (some ⟨p_26, 0, none⟩)) (hS.pick [3]) ?_
         refine K.p 37 rfl (.pointer (some ⟨p_26, 7, none⟩)) (hS.pick [3]) ?_
         refine K.o_ 38 rfl (.int .i64 S.writes) (fun w hS => ((hS.blk 0 rfl x_36).cell rfl)) (hS.pick [3]) ?_
         refine K.DW.l 34 rfl (by kernel_rfl) (by kernel_rfl) (K.OW.gcall hS [0] [1, 2, 3, 4, 5, 6, 7] [.pointer (some ⟨p_22, 0, none⟩)] (seWrites_ok _ _ S _ x_35) ?_)
         clear hS; rintro _ _ w ⟨rfl, rfl⟩ hS
         replace hS : K.Sat w0 [g1, l_43, l_46, h1, gl_12, g_5, g_2, fr] w := hS
         refine ⟨.inl (hS.pick [3]), ?_⟩
         refine K.c 39 rfl (K.QR.nice (v := .bool ((S.writes : Int) != (S.writes : Int))) (by kernel_rfl) (congrArg Value.bool (bne_eq_false_iff_eq.2 (rfl)))) (hS.pick [3]) ?_
         refine K.b 40 rfl (.bool false) (hS.pick [3]) ?_
         refine K.DW.done (by kernel_rfl) ?_
         refine K.t (K.f (K.k ?_))
         refine K.blk_normal ?_
         refine K.t (K.g (K.q [.int .i64 ((j : Nat) : Int)] ?_))
         refine K.a (K.QR.n64 ((((j : Nat) : Int) : Int) + (1 : Int)) ((j + 1 : Nat) : Int) (by kernel_rfl) (by omega)) ?_
         refine K.q [.int .i64 ((j + 1 : Nat) : Int)] (K.z (K.t ?_))
         refine ⟨_, ?_, j + 1, S, (act7 M ((lns c).toNat) (c.th.toNat) (ls.getD j pk0).act), g1, h1, l_43, l_46, rfl, ⟨by rfl, by rfl, by rfl, by rfl, by rfl, by rfl, by rfl, by rfl, by rfl, trivial⟩, (by omega), (by assumption), (by assumption), x_35, x_36, x_44, x_47, hS.pick [3, 0, 4, 1, 2, 5, 6, 7]⟩
         omega
       ·cases (hb_49.symm.trans (show S.done = false from hb_48))
      ·
       refine K.KW.gdrawn [2] hS (by kernel_rfl) ?_
       clear hS; intro w hS
       refine K.p 0 rfl (.pointer (some ⟨p_8, 0, none⟩)) (hS.pick [2]) ?_
       refine K.b 1 rfl (.pointer (some ⟨r_10, 0, none⟩)) (hS.pick [2]) ?_
       refine K.DW.l 2 rfl (by kernel_rfl) rfl (K.OW.gcall hS [1, 0] [2, 3, 4, 5, 6, 7] [.pointer (some ⟨p_8, 0, none⟩), .pointer (some ⟨r_10, 0, none⟩)] (same7_ok _ _ _ _ _ _ _ _ _ _ x_44 x_47) ?_)
       clear hS; rintro _ _ w ⟨rfl, rfl⟩ hS
       replace hS : K.Sat w0 [l_43, l_46, h1, g1, gl_12, g_5, g_2, fr] w := hS
       refine ⟨.inl (hS.pick [2]), ?_⟩
       refine K.b 3 rfl (.bool false) (hS.pick [2]) ?_
       refine K.b 4 rfl (.bool false) (hS.pick [2]) ?_
       refine K.p 5 rfl (.pointer (some ⟨p_22, 0, none⟩)) (hS.pick [2]) ?_
       refine K.p 7 rfl (.pointer (some ⟨p_26, 0, none⟩)) (hS.pick [2]) ?_
       refine K.p 8 rfl (.pointer (some ⟨p_26, 0, none⟩)) (hS.pick [2]) ?_
       refine K.p 9 rfl (.pointer (some ⟨p_26, 2, none⟩)) (hS.pick [2]) ?_
       refine K.o_ 10 rfl (.int .i64 (lineL S.pc)) (fun w hS => ((hS.blk 0 rfl x_36).cell rfl)) (hS.pick [2]) ?_
       refine K.m 11 rfl (fun w hS => K.QR.nice (v := .bool (((lineL S.pc) : Int) == (0 : Int))) (by kernel_rfl) (congrArg Value.bool (beq_iff_eq.2 (sline_t hb_48)))) (hS.pick [2]) ?_
       refine K.DW.l 6 rfl (by kernel_rfl) (by kernel_rfl) (K.OW.gcall hS [3] [0, 1, 2, 4, 5, 6, 7] [.pointer (some ⟨p_22, 0, none⟩)] (seDoneB_ok _ _ S _ x_35) ?_)
       clear hS; rintro _ _ w ⟨rfl, rfl⟩ hS
       replace hS : K.Sat w0 [g1, l_43, l_46, h1, gl_12, g_5, g_2, fr] w := hS
       refine ⟨.inl (hS.pick [3]), ?_⟩
       cases hb_51 : S.done
       ·cases (hb_51.symm.trans (show S.done = true from hb_48))
       ·
        refine K.b 12 rfl (.bool false) (hS.pick [3]) ?_
        refine K.b 13 rfl (.bool false) (hS.pick [3]) ?_
        refine K.b 14 rfl (.bool false) (hS.pick [3]) ?_
        refine K.p 15 rfl (.pointer (some ⟨p_22, 0, none⟩)) (hS.pick [3]) ?_
        refine K.p 17 rfl (.pointer (some ⟨p_26, 0, none⟩)) (hS.pick [3]) ?_
        refine K.p 18 rfl (.pointer (some ⟨p_26, 0, none⟩)) (hS.pick [3]) ?_
        refine K.p 19 rfl (.pointer (some ⟨p_26, 5, none⟩)) (hS.pick [3]) ?_
        refine K.o_ 20 rfl (.bool S.put) (fun w hS => ((hS.blk 0 rfl x_36).cell rfl)) (hS.pick [3]) ?_
        refine K.DW.l 16 rfl (by kernel_rfl) (by kernel_rfl) (K.OW.gcall hS [0] [1, 2, 3, 4, 5, 6, 7] [.pointer (some ⟨p_22, 0, none⟩)] (sePut_ok _ _ S _ x_35) ?_)
        clear hS; rintro _ _ w ⟨rfl, rfl⟩ hS
        replace hS : K.Sat w0 [g1, l_43, l_46, h1, gl_12, g_5, g_2, fr] w := hS
        refine ⟨.inl (hS.pick [3]), ?_⟩
        cases hb_52 : S.put
        ·
         refine K.b 21 rfl (.bool false) (hS.pick [3]) ?_
         refine K.b 22 rfl (.bool false) (hS.pick [3]) ?_
         refine K.b 23 rfl (.bool false) (hS.pick [3]) ?_
         refine K.p 24 rfl (.pointer (some ⟨p_22, 0, none⟩)) (hS.pick [3]) ?_
         refine K.p 26 rfl (.pointer (some ⟨p_26, 0, none⟩)) (hS.pick [3]) ?_
         refine K.p 27 rfl (.pointer (some ⟨p_26, 0, none⟩)) (hS.pick [3]) ?_
         refine K.p 28 rfl (.pointer (some ⟨p_26, 6, none⟩)) (hS.pick [3]) ?_
         refine K.o_ 29 rfl (.int .i64 S.when_) (fun w hS => ((hS.blk 0 rfl x_36).cell rfl)) (hS.pick [3]) ?_
         refine K.DW.l 25 rfl (by kernel_rfl) (by kernel_rfl) (K.OW.gcall hS [0] [1, 2, 3, 4, 5, 6, 7] [.pointer (some ⟨p_22, 0, none⟩)] (seWhen_ok _ _ S _ x_35) ?_)
         clear hS; rintro _ _ w ⟨rfl, rfl⟩ hS
         replace hS : K.Sat w0 [g1, l_43, l_46, h1, gl_12, g_5, g_2, fr] w := hS
         refine ⟨.inl (hS.pick [3]), ?_⟩
         refine K.c 30 rfl (K.QR.nice (v := .bool ((S.when_ : Int) != (S.when_ : Int))) (by kernel_rfl) (congrArg Value.bool (bne_eq_false_iff_eq.2 (rfl)))) (hS.pick [3]) ?_
         refine K.b 31 rfl (.bool false) (hS.pick [3]) ?_
         refine K.b 32 rfl (.bool false) (hS.pick [3]) ?_
         refine K.p 33 rfl (.pointer (some ⟨p_22, 0, none⟩)) (hS.pick [3]) ?_
         refine K.p 35 rfl (.pointer (some ⟨p_26, 0, none⟩)) (hS.pick [3]) ?_
         refine K.p 36 rfl (.pointer (some ⟨p_26, 0, none⟩)) (hS.pick [3]) ?_
         refine K.p 37 rfl (.pointer (some ⟨p_26, 7, none⟩)) (hS.pick [3]) ?_
         refine K.o_ 38 rfl (.int .i64 S.writes) (fun w hS => ((hS.blk 0 rfl x_36).cell rfl)) (hS.pick [3]) ?_
         refine K.DW.l 34 rfl (by kernel_rfl) (by kernel_rfl) (K.OW.gcall hS [0] [1, 2, 3, 4, 5, 6, 7] [.pointer (some ⟨p_22, 0, none⟩)] (seWrites_ok _ _ S _ x_35) ?_)
         clear hS; rintro _ _ w ⟨rfl, rfl⟩ hS
         replace hS : K.Sat w0 [g1, l_43, l_46, h1, gl_12, g_5, g_2, fr] w := hS
         refine ⟨.inl (hS.pick [3]), ?_⟩
         refine K.c 39 rfl (K.QR.nice (v := .bool ((S.writes : Int) != (S.writes : Int))) (by kernel_rfl) (congrArg Value.bool (bne_eq_false_iff_eq.2 (rfl)))) (hS.pick [3]) ?_
         refine K.b 40 rfl (.bool false) (hS.pick [3]) ?_
         refine K.DW.done (by kernel_rfl) ?_
         refine K.t (K.f (K.k ?_))
         refine K.blk_normal ?_
         refine K.t (K.g (K.q [.int .i64 ((j : Nat) : Int)] ?_))
         refine K.a (K.QR.n64 ((((j : Nat) : Int) : Int) + (1 : Int)) ((j + 1 : Nat) : Int) (by kernel_rfl) (by omega)) ?_
         refine K.q [.int .i64 ((j + 1 : Nat) : Int)] (K.z (K.t ?_))
         refine ⟨_, ?_, j + 1, S, (act7 M ((lns c).toNat) (c.th.toNat) (ls.getD j pk0).act), g1, h1, l_43, l_46, rfl, ⟨by rfl, by rfl, by rfl, by rfl, by rfl, by rfl, by rfl, by rfl, by rfl, trivial⟩, (by omega), (by assumption), (by assumption), x_35, x_36, x_44, x_47, hS.pick [3, 0, 4, 1, 2, 5, 6, 7]⟩
         omega
        ·
         refine K.b 21 rfl (.bool false) (hS.pick [3]) ?_
         refine K.b 22 rfl (.bool false) (hS.pick [3]) ?_
         refine K.b 23 rfl (.bool false) (hS.pick [3]) ?_
         refine K.p 24 rfl (.pointer (some ⟨p_22, 0, none⟩)) (hS.pick [3]) ?_
         refine K.p 26 rfl (.pointer (some ⟨p_26, 0, none⟩)) (hS.pick [3]) ?_
         refine K.p 27 rfl (.pointer (some ⟨p_26, 0, none⟩)) (hS.pick [3]) ?_
         refine K.p 28 rfl (.pointer (some ⟨p_26, 6, none⟩)) (hS.pick [3]) ?_
         refine K.o_ 29 rfl (.int .i64 S.when_) (fun w hS => ((hS.blk 0 rfl x_36).cell rfl)) (hS.pick [3]) ?_
         refine K.DW.l 25 rfl (by kernel_rfl) (by kernel_rfl) (K.OW.gcall hS [0] [1, 2, 3, 4, 5, 6, 7] [.pointer (some ⟨p_22, 0, none⟩)] (seWhen_ok _ _ S _ x_35) ?_)
         clear hS; rintro _ _ w ⟨rfl, rfl⟩ hS
         replace hS : K.Sat w0 [g1, l_43, l_46, h1, gl_12, g_5, g_2, fr] w := hS
         refine ⟨.inl (hS.pick [3]), ?_⟩
         refine K.c 30 rfl (K.QR.nice (v := .bool ((S.when_ : Int) != (S.when_ : Int))) (by kernel_rfl) (congrArg Value.bool (bne_eq_false_iff_eq.2 (rfl)))) (hS.pick [3]) ?_
         refine K.b 31 rfl (.bool false) (hS.pick [3]) ?_
         refine K.b 32 rfl (.bool false) (hS.pick [3]) ?_
         refine K.p 33 rfl (.pointer (some ⟨p_22, 0, none⟩)) (hS.pick [3]) ?_
         refine K.p 35 rfl (.pointer (some ⟨p_26, 0, none⟩)) (hS.pick [3]) ?_
         refine K.p 36 rfl (.pointer (some ⟨p_26, 0, none⟩)) (hS.pick [3]) ?_
         refine K.p 37 rfl (.pointer (some ⟨p_26, 7, none⟩)) (hS.pick [3]) ?_
         refine K.o_ 38 rfl (.int .i64 S.writes) (fun w hS => ((hS.blk 0 rfl x_36).cell rfl)) (hS.pick [3]) ?_
         refine K.DW.l 34 rfl (by kernel_rfl) (by kernel_rfl) (K.OW.gcall hS [0] [1, 2, 3, 4, 5, 6, 7] [.pointer (some ⟨p_22, 0, none⟩)] (seWrites_ok _ _ S _ x_35) ?_)
         clear hS; rintro _ _ w ⟨rfl, rfl⟩ hS
         replace hS : K.Sat w0 [g1, l_43, l_46, h1, gl_12, g_5, g_2, fr] w := hS
         refine ⟨.inl (hS.pick [3]), ?_⟩
         refine K.c 39 rfl (K.QR.nice (v := .bool ((S.writes : Int) != (S.writes : Int))) (by kernel_rfl) (congrArg Value.bool (bne_eq_false_iff_eq.2 (rfl)))) (hS.pick [3]) ?_
         refine K.b 40 rfl (.bool false) (hS.pick [3]) ?_
         refine K.DW.done (by kernel_rfl) ?_
         refine K.t (K.f (K.k ?_))
         refine K.blk_normal ?_
         refine K.t (K.g (K.q [.int .i64 ((j : Nat) : Int)] ?_))
         refine K.a (K.QR.n64 ((((j : Nat) : Int) : Int) + (1 : Int)) ((j + 1 : Nat) : Int) (by kernel_rfl) (by omega)) ?_
         refine K.q [.int .i64 ((j + 1 : Nat) : Int)] (K.z (K.t ?_))
         refine ⟨_, ?_, j + 1, S, (act7 M ((lns c).toNat) (c.th.toNat) (ls.getD j pk0).act), g1, h1, l_43, l_46, rfl, ⟨by rfl, by rfl, by rfl, by rfl, by rfl, by rfl, by rfl, by rfl, by rfl, trivial⟩, (by omega), (by assumption), (by assumption), x_35, x_36, x_44, x_47, hS.pick [3, 0, 4, 1, 2, 5, 6, 7]⟩
         omega
     ·
      refine K.z (K.t (K.h (K.s (K.g (K.q [.pointer (some ⟨p_22, 0, none⟩), .pointer (some ⟨p_8, 0, none⟩)] ?_)))))
      refine K.l (K.OW.gcall hS [1, 3] [0, 2, 4, 5, 6, 7] [.pointer (some ⟨p_22, 0, none⟩), .pointer (some ⟨p_8, 0, none⟩)] (seStep_ok _ _ _ _ _ _ S M _ _ x_35 x_37 (by assumption) (by assumption)) ?_)
      clear hS; rintro _ _ w ⟨g_53, l_54, rfl, rfl, h_55, x_56⟩ hS
      replace hS : K.Sat w0 [g_53, l_54, h1, gl_12, m1, g_5, g_2, fr] w := hS
      obtain ⟨hS_57, hM_58⟩ := (seStep_good (by assumption) (by assumption) : (seStep ((lns c).toNat) (c.th.toNat) S M).1.good ∧ (seStep ((lns c).toNat) (c.th.toNat) S M).2.good)
      cases hb_59 : (seStep ((lns c).toNat) (c.th.toNat) S M).1.done
      ·
       refine K.q [.bool false] (K.z (K.t (K.s (K.g (K.q [.pointer (some ⟨p_26, 0, none⟩), .pointer (some ⟨r_10, 0, none⟩)] ?_)))))
       refine K.l (K.OW.gcall hS [2, 4] [0, 1, 3, 5, 6, 7] [.pointer (some ⟨p_26, 0, none⟩), .pointer (some ⟨r_10, 0, none⟩)] (rseStep_ok _ _ _ _ _ _ S M _ _ x_36 x_38 (by assumption) (by assumption)) ?_)
       clear hS; rintro _ _ w ⟨g_60, l_61, rfl, rfl, h_62, x_63⟩ hS
       replace hS : K.Sat w0 [g_60, l_61, g_53, l_54, gl_12, g_5, g_2, fr] w := hS
       refine K.z (K.t (K.s (K.g (K.q [.bool false, .pointer (some ⟨p_26, 0, none⟩), .pointer (some ⟨p_26, 0, none⟩), .pointer (some ⟨p_26, 2, none⟩)] ?_))))
       refine K.d (.int .i64 (lineL (seStep ((lns c).toNat) (c.th.toNat) S M).1.pc)) ((hS.blk 0 rfl h_62).cell rfl) ?_
       refine K.xe ((lineL (seStep ((lns c).toNat) (c.th.toNat) S M).1.pc) : Int) (0 : Int) (sline_f hb_59 (by assumption)) ?_
       refine K.q [.bool false] (K.z (K.t (K.f (K.k (K.t (K.s ?_))))))
       refine K.KW.gdrawn [0] hS (by kernel_rfl) ?_
       clear hS; intro w hS
       refine K.p 0 rfl (.pointer (some ⟨p_8, 0, none⟩)) (hS.pick [0]) ?_
       refine K.b 1 rfl (.pointer (some ⟨r_10, 0, none⟩)) (hS.pick [0]) ?_
       refine K.DW.l 2 rfl (by kernel_rfl) rfl (K.OW.gcall hS [3, 1] [0, 2, 4, 5, 6, 7] [.pointer (some ⟨p_8, 0, none⟩), .pointer (some ⟨r_10, 0, none⟩)] (same7_ok _ _ _ _ _ _ _ _ _ _ x_56 x_63) ?_)
       clear hS; rintro _ _ w ⟨rfl, rfl⟩ hS
       replace hS : K.Sat w0 [l_54, l_61, g_60, g_53, gl_12, g_5, g_2, fr] w := hS
       refine ⟨.inl (hS.pick [2]), ?_⟩
       refine K.b 3 rfl (.bool false) (hS.pick [2]) ?_
       refine K.b 4 rfl (.bool false) (hS.pick [2]) ?_
       refine K.p 5 rfl (.pointer (some ⟨p_22, 0, none⟩)) (hS.pick [2]) ?_
       refine K.p 7 rfl (.pointer (some ⟨p_26, 0, none⟩)) (hS.pick [2]) ?_
       refine K.p 8 rfl (.pointer (some ⟨p_26, 0, none⟩)) (hS.pick [2]) ?_
       refine K.p 9 rfl (.pointer (some ⟨p_26, 2, none⟩)) (hS.pick [2]) ?_
       refine K.o_ 10 rfl (.int .i64 (lineL (seStep ((lns c).toNat) (c.th.toNat) S M).1.pc)) (fun w hS => ((hS.blk 0 rfl h_62).cell rfl)) (hS.pick [2]) ?_
       refine K.m 11 rfl (fun w hS => K.QR.nice (v := .bool (((lineL (seStep ((lns c).toNat) (c.th.toNat) S M).1.pc) : Int) == (0 : Int))) (by kernel_rfl) (congrArg Value.bool (beq_eq_false_iff_ne.2 (sline_f hb_59 (by assumption))))) (hS.pick [2]) ?_
       refine K.DW.l 6 rfl (by kernel_rfl) (by kernel_rfl) (K.OW.gcall hS [3] [0, 1, 2, 4, 5, 6, 7] [.pointer (some ⟨p_22, 0, none⟩)] (seDoneB_ok _ _ (seStep ((lns c).toNat) (c.th.toNat) S M).1 _ h_55) ?_)
       clear hS; rintro _ _ w ⟨rfl, rfl⟩ hS
       replace hS : K.Sat w0 [g_53, l_54, l_61, g_60, gl_12, g_5, g_2, fr] w := hS
       refine ⟨.inl (hS.pick [3]), ?_⟩
       cases hb_64 : (seStep ((lns c).toNat) (c.th.toNat) S M).1.done
       ·
        refine K.b 12 rfl (.bool false) (hS.pick [3]) ?_
        refine K.b 13 rfl (.bool false) (hS.pick [3]) ?_
        refine K.b 14 rfl (.bool false) (hS.pick [3]) ?_
        refine K.p 15 rfl (.pointer (some ⟨p_22, 0, none⟩)) (hS.pick [3]) ?_
        refine K.p 17 rfl (.pointer (some ⟨p_26, 0, none⟩)) (hS.pick [3]) ?_
        refine K.p 18 rfl (.pointer (some ⟨p_26, 0, none⟩)) (hS.pick [3]) ?_
        refine K.p 19 rfl (.pointer (some ⟨p_26, 5, none⟩)) (hS.pick [3]) ?_
        refine K.o_ 20 rfl (.bool ((seStep ((lns c).toNat) (c.th.toNat) S M).1.put)) (fun w hS => ((hS.blk 0 rfl h_62).cell rfl)) (hS.pick [3]) ?_
        refine K.DW.l 16 rfl (by kernel_rfl) (by kernel_rfl) (K.OW.gcall hS [0] [1, 2, 3, 4, 5, 6, 7] [.pointer (some ⟨p_22, 0, none⟩)] (sePut_ok _ _ (seStep ((lns c).toNat) (c.th.toNat) S M).1 _ h_55) ?_)
        clear hS; rintro _ _ w ⟨rfl, rfl⟩ hS
        replace hS : K.Sat w0 [g_53, l_54, l_61, g_60, gl_12, g_5, g_2, fr] w := hS
        refine ⟨.inl (hS.pick [3]), ?_⟩
        cases hb_65 : (seStep ((lns c).toNat) (c.th.toNat) S M).1.put
        ·
         refine K.b 21 rfl (.bool false) (hS.pick [3]) ?_
         refine K.b 22 rfl (.bool false) (hS.pick [3]) ?_
         refine K.b 23 rfl (.bool false) (hS.pick [3]) ?_
         refine K.p 24 rfl (.pointer (some ⟨p_22, 0, none⟩)) (hS.pick [3]) ?_
         refine K.p 26 rfl (.pointer (some ⟨p_26, 0, none⟩)) (hS.pick [3]) ?_
         refine K.p 27 rfl (.pointer (some ⟨p_26, 0, none⟩)) (hS.pick [3]) ?_
         refine K.p 28 rfl (.pointer (some ⟨p_26, 6, none⟩)) (hS.pick [3]) ?_
         refine K.o_ 29 rfl (.int .i64 ((seStep ((lns c).toNat) (c.th.toNat) S M).1.when_)) (fun w hS => ((hS.blk 0 rfl h_62).cell rfl)) (hS.pick [3]) ?_
         refine K.DW.l 25 rfl (by kernel_rfl) (by kernel_rfl) (K.OW.gcall hS [0] [1, 2, 3, 4, 5, 6, 7] [.pointer (some ⟨p_22, 0, none⟩)] (seWhen_ok _ _ (seStep ((lns c).toNat) (c.th.toNat) S M).1 _ h_55) ?_)
         clear hS; rintro _ _ w ⟨rfl, rfl⟩ hS
         replace hS : K.Sat w0 [g_53, l_54, l_61, g_60, gl_12, g_5, g_2, fr] w := hS
         refine ⟨.inl (hS.pick [3]), ?_⟩
         refine K.c 30 rfl (K.QR.nice (v := .bool (((seStep ((lns c).toNat) (c.th.toNat) S M).1.when_ : Int) != ((seStep ((lns c).toNat) (c.th.toNat) S M).1.when_ : Int))) (by kernel_rfl) (congrArg Value.bool (bne_eq_false_iff_eq.2 (rfl)))) (hS.pick [3]) ?_
         refine K.b 31 rfl (.bool false) (hS.pick [3]) ?_
         refine K.b 32 rfl (.bool false) (hS.pick [3]) ?_
         refine K.p 33 rfl (.pointer (some ⟨p_22, 0, none⟩)) (hS.pick [3]) ?_
         refine K.p 35 rfl (.pointer (some ⟨p_26, 0, none⟩)) (hS.pick [3]) ?_
         refine K.p 36 rfl (.pointer (some ⟨p_26, 0, none⟩)) (hS.pick [3]) ?_
         refine K.p 37 rfl (.pointer (some ⟨p_26, 7, none⟩)) (hS.pick [3]) ?_
         refine K.o_ 38 rfl (.int .i64 ((seStep ((lns c).toNat) (c.th.toNat) S M).1.writes)) (fun w hS => ((hS.blk 0 rfl h_62).cell rfl)) (hS.pick [3]) ?_
         refine K.DW.l 34 rfl (by kernel_rfl) (by kernel_rfl) (K.OW.gcall hS [0] [1, 2, 3, 4, 5, 6, 7] [.pointer (some ⟨p_22, 0, none⟩)] (seWrites_ok _ _ (seStep ((lns c).toNat) (c.th.toNat) S M).1 _ h_55) ?_)
         clear hS; rintro _ _ w ⟨rfl, rfl⟩ hS
         replace hS : K.Sat w0 [g_53, l_54, l_61, g_60, gl_12, g_5, g_2, fr] w := hS
         refine ⟨.inl (hS.pick [3]), ?_⟩
         refine K.c 39 rfl (K.QR.nice (v := .bool (((seStep ((lns c).toNat) (c.th.toNat) S M).1.writes : Int) != ((seStep ((lns c).toNat) (c.th.toNat) S M).1.writes : Int))) (by kernel_rfl) (congrArg Value.bool (bne_eq_false_iff_eq.2 (rfl)))) (hS.pick [3]) ?_
         refine K.b 40 rfl (.bool false) (hS.pick [3]) ?_
         refine K.DW.done (by kernel_rfl) ?_
         refine K.t (K.f (K.k ?_))
         refine K.blk_normal ?_
         refine K.t (K.g (K.q [.int .i64 ((j : Nat) : Int)] ?_))
         refine K.a (K.QR.n64 ((((j : Nat) : Int) : Int) + (1 : Int)) ((j + 1 : Nat) : Int) (by kernel_rfl) (by omega)) ?_
         refine K.q [.int .i64 ((j + 1 : Nat) : Int)] (K.z (K.t ?_))
         refine ⟨_, ?_, j + 1, (seStep ((lns c).toNat) (c.th.toNat) S M).1, ((seStep ((lns c).toNat) (c.th.toNat) S M).2), g_53, g_60, l_54, l_61, rfl, ⟨by rfl, by rfl, by rfl, by rfl, by rfl, by rfl, by rfl, by rfl, by rfl, trivial⟩, (by omega), (by assumption), (by assumption), h_55, h_62, x_56, x_63, hS.pick [3, 0, 4, 1, 2, 5, 6, 7]⟩
         omega
        ·
         refine K.b 21 rfl (.bool false) (hS.pick [3]) ?_
         refine K.b 22 rfl (.bool false) (hS.pick [3]) ?_
         refine K.b 23 rfl (.bool false) (hS.pick [3]) ?_
         refine K.p 24 rfl (.pointer (some ⟨p_22, 0, none⟩)) (hS.pick [3]) ?_
         refine K.p 26 rfl (.pointer (some ⟨p_26, 0, none⟩)) (hS.pick [3]) ?_
         refine K.p 27 rfl (.pointer (some ⟨p_26, 0, none⟩)) (hS.pick [3]) ?_
         refine K.p 28 rfl (.pointer (some ⟨p_26, 6, none⟩)) (hS.pick [3]) ?_
         refine K.o_ 29 rfl (.int .i64 ((seStep ((lns c).toNat) (c.th.toNat) S M).1.when_)) (fun w hS => ((hS.blk 0 rfl h_62).cell rfl)) (hS.pick [3]) ?_
         refine K.DW.l 25 rfl (by kernel_rfl) (by kernel_rfl) (K.OW.gcall hS [0] [1, 2, 3, 4, 5, 6, 7] [.pointer (some ⟨p_22, 0, none⟩)] (seWhen_ok _ _ (seStep ((lns c).toNat) (c.th.toNat) S M).1 _ h_55) ?_)
         clear hS; rintro _ _ w ⟨rfl, rfl⟩ hS
         replace hS : K.Sat w0 [g_53, l_54, l_61, g_60, gl_12, g_5, g_2, fr] w := hS
         refine ⟨.inl (hS.pick [3]), ?_⟩
         refine K.c 30 rfl (K.QR.nice (v := .bool (((seStep ((lns c).toNat) (c.th.toNat) S M).1.when_ : Int) != ((seStep ((lns c).toNat) (c.th.toNat) S M).1.when_ : Int))) (by kernel_rfl) (congrArg Value.bool (bne_eq_false_iff_eq.2 (rfl)))) (hS.pick [3]) ?_
         refine K.b 31 rfl (.bool false) (hS.pick [3]) ?_
         refine K.b 32 rfl (.bool false) (hS.pick [3]) ?_
         refine K.p 33 rfl (.pointer (some ⟨p_22, 0, none⟩)) (hS.pick [3]) ?_
         refine K.p 35 rfl (.pointer (some ⟨p_26, 0, none⟩)) (hS.pick [3]) ?_
         refine K.p 36 rfl (.pointer (some ⟨p_26, 0, none⟩)) (hS.pick [3]) ?_
         refine K.p 37 rfl (.pointer (some ⟨p_26, 7, none⟩)) (hS.pick [3]) ?_
         refine K.o_ 38 rfl (.int .i64 ((seStep ((lns c).toNat) (c.th.toNat) S M).1.writes)) (fun w hS => ((hS.blk 0 rfl h_62).cell rfl)) (hS.pick [3]) ?_
         refine K.DW.l 34 rfl (by kernel_rfl) (by kernel_rfl) (K.OW.gcall hS [0] [1, 2, 3, 4, 5, 6, 7] [.pointer (some ⟨p_22, 0, none⟩)] (seWrites_ok _ _ (seStep ((lns c).toNat) (c.th.toNat) S M).1 _ h_55) ?_)
         clear hS; rintro _ _ w ⟨rfl, rfl⟩ hS
         replace hS : K.Sat w0 [g_53, l_54, l_61, g_60, gl_12, g_5, g_2, fr] w := hS
         refine ⟨.inl (hS.pick [3]), ?_⟩
         refine K.c 39 rfl (K.QR.nice (v := .bool (((seStep ((lns c).toNat) (c.th.toNat) S M).1.writes : Int) != ((seStep ((lns c).toNat) (c.th.toNat) S M).1.writes : Int))) (by kernel_rfl) (congrArg Value.bool (bne_eq_false_iff_eq.2 (rfl)))) (hS.pick [3]) ?_
         refine K.b 40 rfl (.bool false) (hS.pick [3]) ?_
         refine K.DW.done (by kernel_rfl) ?_
         refine K.t (K.f (K.k ?_))
         refine K.blk_normal ?_
         refine K.t (K.g (K.q [.int .i64 ((j : Nat) : Int)] ?_))
         refine K.a (K.QR.n64 ((((j : Nat) : Int) : Int) + (1 : Int)) ((j + 1 : Nat) : Int) (by kernel_rfl) (by omega)) ?_
         refine K.q [.int .i64 ((j + 1 : Nat) : Int)] (K.z (K.t ?_))
         refine ⟨_, ?_, j + 1, (seStep ((lns c).toNat) (c.th.toNat) S M).1, ((seStep ((lns c).toNat) (c.th.toNat) S M).2), g_53, g_60, l_54, l_61, rfl, ⟨by rfl, by rfl, by rfl, by rfl, by rfl, by rfl, by rfl, by rfl, by rfl, trivial⟩, (by omega), (by assumption), (by assumption), h_55, h_62, x_56, x_63, hS.pick [3, 0, 4, 1, 2, 5, 6, 7]⟩
         omega
       ·cases (hb_64.symm.trans (show (seStep ((lns c).toNat) (c.th.toNat) S M).1.done = false from hb_59))
      ·
       refine K.q [.bool true] (K.z (K.t (K.s (K.g (K.q [.pointer (some ⟨p_26, 0, none⟩), .pointer (some ⟨r_10, 0, none⟩)] ?_)))))
       refine K.l (K.OW.gcall hS [2, 4] [0, 1, 3, 5, 6, 7] [.pointer (some ⟨p_26, 0, none⟩), .pointer (some ⟨r_10, 0, none⟩)] (rseStep_ok _ _ _ _ _ _ S M _ _ x_36 x_38 (by assumption) (by assumption)) ?_)
       clear hS; rintro _ _ w ⟨g_66, l_67, rfl, rfl, h_68, x_69⟩ hS
       replace hS : K.Sat w0 [g_66, l_67, g_53, l_54, gl_12, g_5, g_2, fr] w := hS
       refine K.z (K.t (K.s (K.g (K.q [.bool true, .pointer (some ⟨p_26, 0, none⟩), .pointer (some ⟨p_26, 0, none⟩), .pointer (some ⟨p_26, 2, none⟩)] ?_))))
       refine K.d (.int .i64 (lineL (seStep ((lns c).toNat) (c.th.toNat) S M).1.pc)) ((hS.blk 0 rfl h_68).cell rfl) ?_
       refine K.ye ((lineL (seStep ((lns c).toNat) (c.th.toNat) S M).1.pc) : Int) (0 : Int) (sline_t hb_59) ?_
       refine K.q [.bool false] (K.z (K.t (K.f (K.k (K.t (K.s ?_))))))
       refine K.KW.gdrawn [0] hS (by kernel_rfl) ?_
       clear hS; intro w hS
       refine K.p 0 rfl (.pointer (some ⟨p_8, 0, none⟩)) (hS.pick [0]) ?_
       refine K.b 1 rfl (.pointer (some ⟨r_10, 0, none⟩)) (hS.pick [0]) ?_
       refine K.DW.l 2 rfl (by kernel_rfl) rfl (K.OW.gcall hS [3, 1] [0, 2, 4, 5, 6, 7] [.pointer (some ⟨p_8, 0, none⟩), .pointer (some ⟨r_10, 0, none⟩)] (same7_ok _ _ _ _ _ _ _ _ _ _ x_56 x_69) ?_)
       clear hS; rintro _ _ w ⟨rfl, rfl⟩ hS
       replace hS : K.Sat w0 [l_54, l_67, g_66, g_53, gl_12, g_5, g_2, fr] w := hS
       refine ⟨.inl (hS.pick [2]), ?_⟩
       refine K.b 3 rfl (.bool false) (hS.pick [2]) ?_
       refine K.b 4 rfl (.bool false) (hS.pick [2]) ?_
       refine K.p 5 rfl (.pointer (some ⟨p_22, 0, none⟩)) (hS.pick [2]) ?_
       refine K.p 7 rfl (.pointer (some ⟨p_26, 0, none⟩)) (hS.pick [2]) ?_
       refine K.p 8 rfl (.pointer (some ⟨p_26, 0, none⟩)) (hS.pick [2]) ?_
       refine K.p 9 rfl (.pointer (some ⟨p_26, 2, none⟩)) (hS.pick [2]) ?_
       refine K.o_ 10 rfl (.int .i64 (lineL (seStep ((lns c).toNat) (c.th.toNat) S M).1.pc)) (fun w hS => ((hS.blk 0 rfl h_68).cell rfl)) (hS.pick [2]) ?_
       refine K.m 11 rfl (fun w hS => K.QR.nice (v := .bool (((lineL (seStep ((lns c).toNat) (c.th.toNat) S M).1.pc) : Int) == (0 : Int))) (by kernel_rfl) (congrArg Value.bool (beq_iff_eq.2 (sline_t hb_59)))) (hS.pick [2]) ?_
       refine K.DW.l 6 rfl (by kernel_rfl) (by kernel_rfl) (K.OW.gcall hS [3] [0, 1, 2, 4, 5, 6, 7] [.pointer (some ⟨p_22, 0, none⟩)] (seDoneB_ok _ _ (seStep ((lns c).toNat) (c.th.toNat) S M).1 _ h_55) ?_)
       clear hS; rintro _ _ w ⟨rfl, rfl⟩ hS
       replace hS : K.Sat w0 [g_53, l_54, l_67, g_66, gl_12, g_5, g_2, fr] w := hS
       refine ⟨.inl (hS.pick [3]), ?_⟩
       cases hb_70 : (seStep ((lns c).toNat) (c.th.toNat) S M).1.done
       ·cases (hb_70.symm.trans (show (seStep ((lns c).toNat) (c.th.toNat) S M).1.done = true from hb_59))
       ·
        refine K.b 12 rfl (.bool false) (hS.pick [3]) ?_
        refine K.b 13 rfl (.bool false) (hS.pick [3]) ?_
        refine K.b 14 rfl (.bool false) (hS.pick [3]) ?_
        refine K.p 15 rfl (.pointer (some ⟨p_22, 0, none⟩)) (hS.pick [3]) ?_
        refine K.p 17 rfl (.pointer (some ⟨p_26, 0, none⟩)) (hS.pick [3]) ?_
        refine K.p 18 rfl (.pointer (some ⟨p_26, 0, none⟩)) (hS.pick [3]) ?_
        refine K.p 19 rfl (.pointer (some ⟨p_26, 5, none⟩)) (hS.pick [3]) ?_
        refine K.o_ 20 rfl (.bool ((seStep ((lns c).toNat) (c.th.toNat) S M).1.put)) (fun w hS => ((hS.blk 0 rfl h_68).cell rfl)) (hS.pick [3]) ?_
        refine K.DW.l 16 rfl (by kernel_rfl) (by kernel_rfl) (K.OW.gcall hS [0] [1, 2, 3, 4, 5, 6, 7] [.pointer (some ⟨p_22, 0, none⟩)] (sePut_ok _ _ (seStep ((lns c).toNat) (c.th.toNat) S M).1 _ h_55) ?_)
        clear hS; rintro _ _ w ⟨rfl, rfl⟩ hS
        replace hS : K.Sat w0 [g_53, l_54, l_67, g_66, gl_12, g_5, g_2, fr] w := hS
        refine ⟨.inl (hS.pick [3]), ?_⟩
        cases hb_71 : (seStep ((lns c).toNat) (c.th.toNat) S M).1.put
        ·
         refine K.b 21 rfl (.bool false) (hS.pick [3]) ?_
         refine K.b 22 rfl (.bool false) (hS.pick [3]) ?_
         refine K.b 23 rfl (.bool false) (hS.pick [3]) ?_
         refine K.p 24 rfl (.pointer (some ⟨p_22, 0, none⟩)) (hS.pick [3]) ?_
         refine K.p 26 rfl (.pointer (some ⟨p_26, 0, none⟩)) (hS.pick [3]) ?_
         refine K.p 27 rfl (.pointer (some ⟨p_26, 0, none⟩)) (hS.pick [3]) ?_
         refine K.p 28 rfl (.pointer (some ⟨p_26, 6, none⟩)) (hS.pick [3]) ?_
         refine K.o_ 29 rfl (.int .i64 ((seStep ((lns c).toNat) (c.th.toNat) S M).1.when_)) (fun w hS => ((hS.blk 0 rfl h_68).cell rfl)) (hS.pick [3]) ?_
         refine K.DW.l 25 rfl (by kernel_rfl) (by kernel_rfl) (K.OW.gcall hS [0] [1, 2, 3, 4, 5, 6, 7] [.pointer (some ⟨p_22, 0, none⟩)] (seWhen_ok _ _ (seStep ((lns c).toNat) (c.th.toNat) S M).1 _ h_55) ?_)
         clear hS; rintro _ _ w ⟨rfl, rfl⟩ hS
         replace hS : K.Sat w0 [g_53, l_54, l_67, g_66, gl_12, g_5, g_2, fr] w := hS
         refine ⟨.inl (hS.pick [3]), ?_⟩
         refine K.c 30 rfl (K.QR.nice (v := .bool (((seStep ((lns c).toNat) (c.th.toNat) S M).1.when_ : Int) != ((seStep ((lns c).toNat) (c.th.toNat) S M).1.when_ : Int))) (by kernel_rfl) (congrArg Value.bool (bne_eq_false_iff_eq.2 (rfl)))) (hS.pick [3]) ?_
         refine K.b 31 rfl (.bool false) (hS.pick [3]) ?_
         refine K.b 32 rfl (.bool false) (hS.pick [3]) ?_
         refine K.p 33 rfl (.pointer (some ⟨p_22, 0, none⟩)) (hS.pick [3]) ?_
         refine K.p 35 rfl (.pointer (some ⟨p_26, 0, none⟩)) (hS.pick [3]) ?_
         refine K.p 36 rfl (.pointer (some ⟨p_26, 0, none⟩)) (hS.pick [3]) ?_
         refine K.p 37 rfl (.pointer (some ⟨p_26, 7, none⟩)) (hS.pick [3]) ?_
         refine K.o_ 38 rfl (.int .i64 ((seStep ((lns c).toNat) (c.th.toNat) S M).1.writes)) (fun w hS => ((hS.blk 0 rfl h_68).cell rfl)) (hS.pick [3]) ?_
         refine K.DW.l 34 rfl (by kernel_rfl) (by kernel_rfl) (K.OW.gcall hS [0] [1, 2, 3, 4, 5, 6, 7] [.pointer (some ⟨p_22, 0, none⟩)] (seWrites_ok _ _ (seStep ((lns c).toNat) (c.th.toNat) S M).1 _ h_55) ?_)
         clear hS; rintro _ _ w ⟨rfl, rfl⟩ hS
         replace hS : K.Sat w0 [g_53, l_54, l_67, g_66, gl_12, g_5, g_2, fr] w := hS
         refine ⟨.inl (hS.pick [3]), ?_⟩
         refine K.c 39 rfl (K.QR.nice (v := .bool (((seStep ((lns c).toNat) (c.th.toNat) S M).1.writes : Int) != ((seStep ((lns c).toNat) (c.th.toNat) S M).1.writes : Int))) (by kernel_rfl) (congrArg Value.bool (bne_eq_false_iff_eq.2 (rfl)))) (hS.pick [3]) ?_
         refine K.b 40 rfl (.bool false) (hS.pick [3]) ?_
         refine K.DW.done (by kernel_rfl) ?_
         refine K.t (K.f (K.k ?_))
         refine K.blk_normal ?_
         refine K.t (K.g (K.q [.int .i64 ((j : Nat) : Int)] ?_))
         refine K.a (K.QR.n64 ((((j : Nat) : Int) : Int) + (1 : Int)) ((j + 1 : Nat) : Int) (by kernel_rfl) (by omega)) ?_
         refine K.q [.int .i64 ((j + 1 : Nat) : Int)] (K.z (K.t ?_))
         refine ⟨_, ?_, j + 1, (seStep ((lns c).toNat) (c.th.toNat) S M).1, ((seStep ((lns c).toNat) (c.th.toNat) S M).2), g_53, g_66, l_54, l_67, rfl, ⟨by rfl, by rfl, by rfl, by rfl, by rfl, by rfl, by rfl, by rfl, by rfl, trivial⟩, (by omega), (by assumption), (by assumption), h_55, h_68, x_56, x_69, hS.pick [3, 0, 4, 1, 2, 5, 6, 7]⟩
         omega
        ·
         refine K.b 21 rfl (.bool false) (hS.pick [3]) ?_
         refine K.b 22 rfl (.bool false) (hS.pick [3]) ?_
         refine K.b 23 rfl (.bool false) (hS.pick [3]) ?_
         refine K.p 24 rfl (.pointer (some ⟨p_22, 0, none⟩)) (hS.pick [3]) ?_
         refine K.p 26 rfl (.pointer (some ⟨p_26, 0, none⟩)) (hS.pick [3]) ?_
         refine K.p 27 rfl (.pointer (some ⟨p_26, 0, none⟩)) (hS.pick [3]) ?_
         refine K.p 28 rfl (.pointer (some ⟨p_26, 6, none⟩)) (hS.pick [3]) ?_
         refine K.o_ 29 rfl (.int .i64 ((seStep ((lns c).toNat) (c.th.toNat) S M).1.when_)) (fun w hS => ((hS.blk 0 rfl h_68).cell rfl)) (hS.pick [3]) ?_
         refine K.DW.l 25 rfl (by kernel_rfl) (by kernel_rfl) (K.OW.gcall hS [0] [1, 2, 3, 4, 5, 6, 7] [.pointer (some ⟨p_22, 0, none⟩)] (seWhen_ok _ _ (seStep ((lns c).toNat) (c.th.toNat) S M).1 _ h_55) ?_)
         clear hS; rintro _ _ w ⟨rfl, rfl⟩ hS
         replace hS : K.Sat w0 [g_53, l_54, l_67, g_66, gl_12, g_5, g_2, fr] w := hS
         refine ⟨.inl (hS.pick [3]), ?_⟩
         refine K.c 30 rfl (K.QR.nice (v := .bool (((seStep ((lns c).toNat) (c.th.toNat) S M).1.when_ : Int) != ((seStep ((lns c).toNat) (c.th.toNat) S M).1.when_ : Int))) (by kernel_rfl) (congrArg Value.bool (bne_eq_false_iff_eq.2 (rfl)))) (hS.pick [3]) ?_
         refine K.b 31 rfl (.bool false) (hS.pick [3]) ?_
         refine K.b 32 rfl (.bool false) (hS.pick [3]) ?_
         refine K.p 33 rfl (.pointer (some ⟨p_22, 0, none⟩)) (hS.pick [3]) ?_
         refine K.p 35 rfl (.pointer (some ⟨p_26, 0, none⟩)) (hS.pick [3]) ?_
         refine K.p 36 rfl (.pointer (some ⟨p_26, 0, none⟩)) (hS.pick [3]) ?_
         refine K.p 37 rfl (.pointer (some ⟨p_26, 7, none⟩)) (hS.pick [3]) ?_
         refine K.o_ 38 rfl (.int .i64 ((seStep ((lns c).toNat) (c.th.toNat) S M).1.writes)) (fun w hS => ((hS.blk 0 rfl h_68).cell rfl)) (hS.pick [3]) ?_
         refine K.DW.l 34 rfl (by kernel_rfl) (by kernel_rfl) (K.OW.gcall hS [0] [1, 2, 3, 4, 5, 6, 7] [.pointer (some ⟨p_22, 0, none⟩)] (seWrites_ok _ _ (seStep ((lns c).toNat) (c.th.toNat) S M).1 _ h_55) ?_)
         clear hS; rintro _ _ w ⟨rfl, rfl⟩ hS
         replace hS : K.Sat w0 [g_53, l_54, l_67, g_66, gl_12, g_5, g_2, fr] w := hS
         refine ⟨.inl (hS.pick [3]), ?_⟩
         refine K.c 39 rfl (K.QR.nice (v := .bool (((seStep ((lns c).toNat) (c.th.toNat) S M).1.writes : Int) != ((seStep ((lns c).toNat) (c.th.toNat) S M).1.writes : Int))) (by kernel_rfl) (congrArg Value.bool (bne_eq_false_iff_eq.2 (rfl)))) (hS.pick [3]) ?_
         refine K.b 40 rfl (.bool false) (hS.pick [3]) ?_
         refine K.DW.done (by kernel_rfl) ?_
         refine K.t (K.f (K.k ?_))
         refine K.blk_normal ?_
         refine K.t (K.g (K.q [.int .i64 ((j : Nat) : Int)] ?_))
         refine K.a (K.QR.n64 ((((j : Nat) : Int) : Int) + (1 : Int)) ((j + 1 : Nat) : Int) (by kernel_rfl) (by omega)) ?_
         refine K.q [.int .i64 ((j + 1 : Nat) : Int)] (K.z (K.t ?_))
         refine ⟨_, ?_, j + 1, (seStep ((lns c).toNat) (c.th.toNat) S M).1, ((seStep ((lns c).toNat) (c.th.toNat) S M).2), g_53, g_66, l_54, l_67, rfl, ⟨by rfl, by rfl, by rfl, by rfl, by rfl, by rfl, by rfl, by rfl, by rfl, trivial⟩, (by omega), (by assumption), (by assumption), h_55, h_68, x_56, x_69, hS.pick [3, 0, 4, 1, 2, 5, 6, 7]⟩
         omega
    ·
     refine K.x ((((j : Nat) : Int) : Int) < (((ls.length : Nat) : Int) : Int)) h_39 ?_
     refine K.z (K.t (K.f ?_))
     refine K.KW.exit ?_
     refine K.thn_exit ?_
     refine K.thn_exit ?_
     refine K.blk_hit ?_
     refine K.t (K.s (K.g ?_))
     refine K.l (K.OW.gcall hS [] [0, 1, 2, 3, 4, 5, 6, 7] [] (awake13_ok _) ?_)
     clear hS; rintro _ _ w ⟨rfl, rfl⟩ hS
     replace hS : K.Sat w0 [h1, g1, gl_12, l1, m1, g_5, g_2, fr] w := hS
     refine K.q [.bool true] (K.z (K.t (K.r ?_)))
     refine ⟨.inr rfl, rfl, (.bool true), K.res1 rfl rfl, [], ?_, hS.pick [7]⟩
     exact rfl
 ·
  replace hS : K.Sat w0 [g_5, g_2, fr] w := hS.of (by simp [K.pick, K.nth])
  refine K.q [.tuple #[.pointer none, .pointer none, .pointer none, .bool false], .pointer none, .pointer none, .pointer none, .bool false, .pointer none, .pointer none, .pointer none, .bool false] (K.z (K.t (K.s (K.s (K.g (K.q [.bool false, .bool true, .bool true] (K.n_ (K.n_ (K.n_ (K.q [.bool true] (K.z (K.t (K.h (K.s ?_))))))))))))))
  refine K.g ?_
  refine K.l (K.OW.gcall hS [] [0, 1, 2] [] (awake13_ok _) ?_)
  clear hS; rintro _ _ w ⟨rfl, rfl⟩ hS
  replace hS : K.Sat w0 [g_5, g_2, fr] w := hS
  refine K.q [.bool true] (K.z (K.t (K.r (K.u ?_))))
  refine ⟨.inr rfl, rfl, (.bool true), K.res1 rfl rfl, [], ?_, hS.pick [2]⟩
  exact rfl
end Go.Proofs.Ytkmndplicmaahaa
