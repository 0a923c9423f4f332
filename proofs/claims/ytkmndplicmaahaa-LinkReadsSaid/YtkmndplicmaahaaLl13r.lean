/- The statement LinkReads. -/
import Derived.Test.YtkmndplicmaahaaFl13
import Derived.Test.YtkmndplicmaahaaKn
namespace Go.Proofs.Ytkmndplicmaahaa
open Go.RowKit
set_option linter.unusedVariables false
attribute [local irreducible] K.KW K.RW K.DW K.OW K.QR K.KC
set_option maxHeartbeats 1000000 in
set_option maxRecDepth 100000 in
theorem l13reads_ok (w0 : World) (c : Cfg) (pa : Option Addr) (cp : Nat) (ps : List PutM) (hg : ∀ j, j < ps.length → isInt (ps.getD j pu0).at_ ∧ isW (ps.getD j pu0).w) (hxp : K.RowE w0 pa ps.length 2 (fun i => cPut (ps.getD i pu0))) (tt ii : Int) (htt : isInt tt) (hii : isInt ii) (b : Option Addr) (cap2 : Nat) (ls : List PokeM) (hk : ∀ j, j < ls.length → (ls.getD j pk0).act.good ∧ isW (ls.getD j pk0).act.w) (hl : ls.length ≤ 9223372036854775807) (hy : K.RowE w0 b ls.length 6 (fun i => cPoke (ls.getD i pk0))) :
  K.GC Try.prog w0 9 #[.agg #[.int .i64 c.th, .int .i64 c.sl, .int .i64 c.lo, .int .i64 c.bu, .slice pa ps.length cp], .agg #[.int .i64 tt, .int .i64 ii], .slice b ls.length cap2] [] (fun v post => v = .bool true) := by
 refine K.GC.mk (n := 111) Try.func9 rfl rfl [.agg #[.int .i64 c.th, .int .i64 c.sl, .int .i64 c.lo, .int .i64 c.bu, .slice pa ps.length cp], .agg #[.int .i64 tt, .int .i64 ii], .slice b ls.length cap2] rfl rfl ?_
 intro fr w hS
 replace hS : K.Sat w0 [fr] w := hS
 refine K.s (K.g ?_)
 refine K.l (K.OW.gnew 38 [.int .i64 c.th, .int .i64 c.sl, .int .i64 c.lo, .int .i64 c.bu, .slice pa ps.length cp] hS ?_)
 clear hS; intro w r_1 g_2 hg_3 hS
 refine K.l (K.OW.gnew 24 [.int .i64 tt, .int .i64 ii] hS ?_)
 clear hS; intro w r_4 g_5 hg_6 hS
 refine K.q [.bool false] (K.z (K.t (K.s (K.g ?_))))
 refine K.a (K.QR.ldN [.int .i64 c.th, .int .i64 c.sl, .int .i64 c.lo, .int .i64 c.bu, .slice pa ps.length cp] rfl rfl (by kernel_rfl) (by kernel_rfl) (K.cells (K.cl ((hS.blk 1 rfl hg_3).cell rfl) (K.cl ((hS.blk 1 rfl hg_3).cell rfl) (K.cl ((hS.blk 1 rfl hg_3).cell rfl) (K.cl ((hS.blk 1 rfl hg_3).cell rfl) (K.cl ((hS.blk 1 rfl hg_3).cell rfl) K.cl0))))))) ?_
 refine K.l (K.OW.gcall hS [53] [0, 1, 2] [.agg #[.int .i64 c.th, .int .i64 c.sl, .int .i64 c.lo, .int .i64 c.bu, .slice pa ps.length cp]] (lay_ok _ c _ _ ps (fun j hj => (hg j hj).1) _ (fun w h => hxp.no h.chg)) ?_)
 clear hS; rintro _ _ w (⟨b_7, p_8, q_9, r_10, u_11, _, _, gl_12, l_13, m_14, rfl, rfl, hl_15, x_16, y_17, rfl, rfl, hf_18, hp_19⟩ | ⟨rfl, rfl, h_20⟩) hS
 ·
  replace hS : K.Sat w0 [gl_12, l_13, m_14, g_5, g_2, fr] w := hS.of (by simp [K.pick, K.nth])
  have hc : cfgOk c := hf_18.1
  obtain ⟨hfa, hfb⟩ : (((1 ≤ c.th ∧ c.th ≤ 64) ∧ (1 ≤ c.sl ∧ c.sl ≤ 65536) ∧ (1 ≤ c.lo ∧ c.lo ≤ 64) ∧ (1 ≤ c.bu ∧ c.bu ≤ 64)) ∧ (c.th ≤ 6 ∧ c.sl ≤ 30 ∧ c.lo ≤ 8 ∧ c.bu ≤ 8)) := (by have h := hf_18; unfold fewC cfgOk at h; exact h)
  have hM : (groundM ((lns c).toNat) (c.th.toNat) (2 + c.th + c.sl).toNat ps).good := ground_good (fun j hj => (hg j hj).2)
  have hP : (((groundM ((lns c).toNat) (c.th.toNat) (2 + c.th + c.sl).toNat ps).pass.length : Nat) : Int) = 2 + c.th + c.sl := by rw [ground_pass]; omega
  refine K.q [.tuple #[.pointer (some ⟨b_7, 0, none⟩), .pointer (some ⟨p_8, 0, none⟩), .pointer (some ⟨r_10, 0, none⟩), .bool true], .pointer (some ⟨b_7, 0, none⟩), .pointer (some ⟨p_8, 0, none⟩), .pointer (some ⟨r_10, 0, none⟩), .bool true, .pointer (some ⟨b_7, 0, none⟩), .pointer (some ⟨p_8, 0, none⟩), .pointer (some ⟨r_10, 0, none⟩), .bool true] (K.z (K.t (K.s (K.s (K.g (K.q [.bool true, .bool false, .bool false, .slice b ls.length cap2] ?_))))))
  refine K.a (K.QR.len (P := Try.prog) rfl rfl Try.underlying83) ?_
  by_cases h_21 : (((ls.length : Nat) : Int) : Int) > (60 : Int)
  ·
   refine K.y ((((ls.length : Nat) : Int) : Int) > (60 : Int)) h_21 ?_
   refine K.q [.bool true] (K.z (K.t (K.h (K.s (K.g ?_)))))
   refine K.l (K.OW.gcall hS [] [0, 1, 2, 3, 4, 5] [] (awake13_ok _) ?_)
   clear hS; rintro _ _ w ⟨rfl, rfl⟩ hS
   replace hS : K.Sat w0 [gl_12, l_13, m_14, g_5, g_2, fr] w := hS
   refine K.q [.bool true] (K.z (K.t (K.r (K.u ?_))))
   refine ⟨.inr rfl, rfl, (.bool true), K.res1 rfl rfl, [], ?_, hS.pick [5]⟩
   exact rfl
  ·
   refine K.x ((((ls.length : Nat) : Int) : Int) > (60 : Int)) h_21 ?_
   refine K.q [.bool false] (K.z (K.t (K.f (K.k (K.t (K.s ?_))))))
   refine K.KW.gdrawn [3] hS (by kernel_rfl) ?_
   clear hS; intro w hS
   refine K.m 0 rfl (fun w hS => K.QR.ixA 0 1 rfl rfl rfl Try.underlying24 (by kernel_rfl) (by omega) (by first | rfl | simp)) (hS.pick [3]) ?_
   refine K.o_ 1 rfl (.int .i64 tt) (fun w hS => ((hS.blk 0 rfl hg_6).cell rfl)) (hS.pick [3]) ?_
   refine K.m 2 rfl (fun w hS => K.QR.ixA 1 1 rfl rfl rfl Try.underlying24 (by kernel_rfl) (by omega) (by first | rfl | simp)) (hS.pick [3]) ?_
   refine K.o_ 3 rfl (.int .i64 ii) (fun w hS => ((hS.blk 0 rfl hg_6).cell rfl)) (hS.pick [3]) ?_
   refine K.m 5 rfl (fun w hS => K.QR.ixA 0 1 rfl rfl rfl Try.underlying24 (by kernel_rfl) (by omega) (by first | rfl | simp)) (hS.pick [3]) ?_
   refine K.o_ 6 rfl (.int .i64 tt) (fun w hS => ((hS.blk 0 rfl hg_6).cell rfl)) (hS.pick [3]) ?_
   refine K.m 7 rfl (fun w hS => K.QR.ixA 1 1 rfl rfl rfl Try.underlying24 (by kernel_rfl) (by omega) (by first | rfl | simp)) (hS.pick [3]) ?_
   refine K.o_ 8 rfl (.int .i64 ii) (fun w hS => ((hS.blk 0 rfl hg_6).cell rfl)) (hS.pick [3]) ?_
   refine K.DW.l 4 rfl (by kernel_rfl) rfl (K.OW.gcall hS [] [0, 1, 2, 3, 4, 5] [.int .i64 tt, .int .i64 ii] (newrd_ok _ tt (by first | omega | assumption) ii (by first | omega | assumption)) ?_)
   clear hS; rintro _ _ w ⟨p_22, g_23, rfl, rfl, h_24⟩ hS
   replace hS : K.Sat w0 [g_23, gl_12, l_13, m_14, g_5, g_2, fr] w := hS
   have hS_25 : RdS.good (⟨tt, ii, 0, 0, -1⟩ : RdS) := rdInit (by omega) (by omega)
   refine ⟨.inl (hS.pick [4]), ?_⟩
   refine K.DW.l 9 rfl (by kernel_rfl) rfl (K.OW.gcall hS [] [0, 1, 2, 3, 4, 5, 6] [.int .i64 tt, .int .i64 ii] (newrrd_ok _ tt (by first | omega | assumption) ii (by first | omega | assumption)) ?_)
   clear hS; rintro _ _ w ⟨p_26, g_27, rfl, rfl, h_28⟩ hS
   replace hS : K.Sat w0 [g_27, g_23, gl_12, l_13, m_14, g_5, g_2, fr] w := hS
   refine ⟨.inl (hS.pick [5]), ?_⟩
   refine K.b 10 rfl (.pointer (some ⟨p_22, 0, none⟩)) (hS.pick [5]) ?_
   refine K.b 11 rfl (.pointer (some ⟨p_26, 0, none⟩)) (hS.pick [5]) ?_
   refine K.DW.done (by kernel_rfl) ?_
   refine K.t (K.s (K.s (K.g (K.q [.int .i64 0] (K.z (K.t ?_))))))
   refine K.KW.block ?_
   refine K.KW.loop (fun m_ F_ w_ => ∃ (j : Nat) (S : RdS) (gt : Int) (M : MemM) (g1 : K.Cs) (h1 : K.Cs) (l1 : K.Cs) (m1 : K.Cs), m_ = ls.length - j ∧ K.Sl F_ [(0, .agg #[.int .i64 c.th, .int .i64 c.sl, .int .i64 c.lo, .int .i64 c.bu, .slice pa ps.length cp]), (1, .agg #[.int .i64 tt, .int .i64 ii]), (2, .slice b ls.length cap2), (8, .pointer (some ⟨p_8, 0, none⟩)), (9, .pointer (some ⟨r_10, 0, none⟩)), (11, .pointer (some ⟨p_22, 0, none⟩)), (12, .pointer (some ⟨p_26, 0, none⟩)), (13, .int .i64 ((j : Nat) : Int)), (111, undef)] ∧ j ≤ ls.length ∧ S.good ∧ gtOk S gt ∧ M.good ∧ g1 = [K.pt p_22 124 [.int .i64 S.t, .int .i64 S.at_, .int .i64 S.pc, .int .u64 S.word, .int .i64 S.when_]] ∧ h1 = [K.pt p_26 92 [.int .i64 S.t, .int .i64 S.at_, .int .i64 (lineL S.pc), .int .u64 gt, .int .u64 (rdWord S), .int .i64 (rdWhen S)]] ∧ MemAt l1 p_8 q_9 ((lns c).toNat) (c.th.toNat) M ∧ RMemAt m1 r_10 u_11 ((lns c).toNat) (c.th.toNat) M ∧ K.Sat w0 [h1, g1, gl_12, l1, m1, g_5, g_2, fr] w_) ((fun (j : Nat) (S : RdS) (gt : Int) (M : MemM) => ls.length - j) 0 ⟨tt, ii, 0, 0, -1⟩ 0 (groundM ((lns c).toNat) (c.th.toNat) (2 + c.th + c.sl).toNat ps)) ?_ ?_
   ·
    exact ⟨0, ⟨tt, ii, 0, 0, -1⟩, 0, (groundM ((lns c).toNat) (c.th.toNat) (2 + c.th + c.sl).toNat ps), g_23, g_27, l_13, m_14, rfl, ⟨by rfl, by rfl, by rfl, by rfl, by rfl, by rfl, by rfl, by rfl, by rfl, trivial⟩, (by omega), (rdInit (by omega) (by omega)), (gtInit), (hM), h_24, h_28, x_16, y_17, hS.pick [0, 1, 2, 3, 4, 5, 6, 7]⟩
   ·
    clear hS
    intro m_29 F_30 w hI
    obtain ⟨j, S, gt, M, g1, h1, l1, m1, rfl, sl_31, p_32, p_33, p_34, p_35, x_36, x_37, x_38, x_39, hS⟩ := hI
    rw [← K.Sl.puts sl_31]; clear sl_31
    refine K.s (K.s (K.g (K.q [.int .i64 ((j : Nat) : Int), .slice b ls.length cap2] ?_)))
    refine K.a (K.QR.len (P := Try.prog) rfl rfl Try.underlying83) ?_
    by_cases h_40 : (((j : Nat) : Int) : Int) < (((ls.length : Nat) : Int) : Int)
    ·
     refine K.y ((((j : Nat) : Int) : Int) < (((ls.length : Nat) : Int) : Int)) h_40 ?_
     refine K.z (K.t (K.h (K.k (K.t (K.s ?_)))))
     refine K.KW.block ?_
     refine K.s (K.s ?_)
     obtain ⟨b_41, of_42, rfl, _⟩ := hy.at_ (by omega)
     refine K.g (K.q [.slice (some ⟨b_41, of_42, none⟩) ls.length cap2, .int .i64 ((j : Nat) : Int)] ?_)
     refine K.a (K.QR.ix (of_42 + j * 6) 6 rfl rfl rfl Try.underlying83 (by kernel_rfl) (by omega) (by first | (simp; done) | omega | (simp; omega))) ?_
     refine K.q [.pointer (some ⟨b_41, of_42 + j * 6, none⟩)] ?_
     refine K.d (.bool ((ls.getD j pk0).step)) ((hy.no hS.chg).ld j (by omega) 0 _ rfl) ?_
     cases hb_43 : (ls.getD j pk0).step
     ·
      refine K.z (K.t (K.f (K.s (K.g (K.q [.pointer (some ⟨p_8, 0, none⟩), .slice (some ⟨b_41, of_42, none⟩) ls.length cap2, .int .i64 ((j : Nat) : Int)] ?_)))))
      refine K.a (K.QR.ix (of_42 + j * 6) 6 rfl rfl rfl Try.underlying83 (by kernel_rfl) (by omega) (by first | (simp; done) | omega | (simp; omega))) ?_
      refine K.q [.pointer (some ⟨b_41, of_42 + j * 6 + 1, none⟩)] ?_
      refine K.a (K.QR.ldN [.int .i64 ((ls.getD j pk0).act.kind), .int .i64 ((ls.getD j pk0).act.thread), .int .i64 ((ls.getD j pk0).act.at_), .int .u64 ((ls.getD j pk0).act.old), .int .u64 ((ls.getD j pk0).act.w)] rfl rfl (by kernel_rfl) (by kernel_rfl) (K.cells (K.cl ((hy.no hS.chg).ld j (by omega) 1 _ rfl) (K.cl ((hy.no hS.chg).ld j (by omega) 2 _ rfl) (K.cl ((hy.no hS.chg).ld j (by omega) 3 _ rfl) (K.cl ((hy.no hS.chg).ld j (by omega) 4 _ rfl) (K.cl ((hy.no hS.chg).ld j (by omega) 5 _ rfl) K.cl0))))))) ?_
      refine K.l (K.OW.gcall hS [3] [0, 1, 2, 4, 5, 6, 7] [.pointer (some ⟨p_8, 0, none⟩), .agg #[.int .i64 ((ls.getD j pk0).act.kind), .int .i64 ((ls.getD j pk0).act.thread), .int .i64 ((ls.getD j pk0).act.at_), .int .u64 ((ls.getD j pk0).act.old), .int .u64 ((ls.getD j pk0).act.w)]] (do7_ok _ _ _ _ _ _ _ x_38 (ls.getD j pk0).act (hk j (by omega)).1) ?_)
      clear hS; rintro _ _ w ⟨l_44, rfl, rfl, x_45⟩ hS
      replace hS : K.Sat w0 [l_44, h1, g1, gl_12, m1, g_5, g_2, fr] w := hS
      have hM_46 : (act7 M ((lns c).toNat) (c.th.toNat) (ls.getD j pk0).act).good := act7_good (by assumption) (hk j (by omega)).2
      refine K.z (K.t (K.g (K.q [.pointer (some ⟨r_10, 0, none⟩), .slice (some ⟨b_41, of_42, none⟩) ls.length cap2, .int .i64 ((j : Nat) : Int)] ?_)))
      refine K.a (K.QR.ix (of_42 + j * 6) 6 rfl rfl rfl Try.underlying83 (by kernel_rfl) (by omega) (by first | (simp; done) | omega | (simp; omega))) ?_
      refine K.q [.pointer (some ⟨b_41, of_42 + j * 6 + 1, none⟩)] ?_
      refine K.a (K.QR.ldN [.int .i64 ((ls.getD j pk0).act.kind), .int .i64 ((ls.getD j pk0).act.thread), .int .i64 ((ls.getD j pk0).act.at_), .int .u64 ((ls.getD j pk0).act.old), .int .u64 ((ls.getD j pk0).act.w)] rfl rfl (by kernel_rfl) (by kernel_rfl) (K.cells (K.cl ((hy.no hS.chg).ld j (by omega) 1 _ rfl) (K.cl ((hy.no hS.chg).ld j (by omega) 2 _ rfl) (K.cl ((hy.no hS.chg).ld j (by omega) 3 _ rfl) (K.cl ((hy.no hS.chg).ld j (by omega) 4 _ rfl) (K.cl ((hy.no hS.chg).ld j (by omega) 5 _ rfl) K.cl0))))))) ?_
      refine K.l (K.OW.gcall hS [4] [0, 1, 2, 3, 5, 6, 7] [.pointer (some ⟨r_10, 0, none⟩), .agg #[.int .i64 ((ls.getD j pk0).act.kind), .int .i64 ((ls.getD j pk0).act.thread), .int .i64 ((ls.getD j pk0).act.at_), .int .u64 ((ls.getD j pk0).act.old), .int .u64 ((ls.getD j pk0).act.w)]] (must7_ok _ _ _ _ _ _ _ x_39 (ls.getD j pk0).act (hk j (by omega)).1) ?_)
      clear hS; rintro _ _ w ⟨l_47, rfl, rfl, x_48⟩ hS
      replace hS : K.Sat w0 [l_47, l_44, h1, g1, gl_12, g_5, g_2, fr] w := hS
      refine K.z (K.t (K.s ?_))
      cases hb_49 : S.done
      ·
       refine K.KW.gdrawn [2] hS (by kernel_rfl) ?_
       clear hS; intro w hS
       refine K.p 0 rfl (.pointer (some ⟨p_8, 0, none⟩)) (hS.pick [2]) ?_
       refine K.b 1 rfl (.pointer (some ⟨r_10, 0, none⟩)) (hS.pick [2]) ?_
       refine K.DW.l 2 rfl (by kernel_rfl) rfl (K.OW.gcall hS [1, 0] [2, 3, 4, 5, 6, 7] [.pointer (some ⟨p_8, 0, none⟩), .pointer (some ⟨r_10, 0, none⟩)] (same7_ok _ _ _ _ _ _ _ _ _ _ x_45 x_48) ?_)
       clear hS; rintro _ _ w ⟨rfl, rfl⟩ hS
       replace hS : K.Sat w0 [l_44, l_47, h1, g1, gl_12, g_5, g_2, fr] w := hS
       refine ⟨.inl (hS.pick [2]), ?_⟩
       refine K.b 3 rfl (.bool false) (hS.pick [2]) ?_
       refine K.b 4 rfl (.bool false) (hS.pick [2]) ?_
       refine K.p 5 rfl (.pointer (some ⟨p_22, 0, none⟩)) (hS.pick [2]) ?_
       refine K.p 7 rfl (.pointer (some ⟨p_26, 0, none⟩)) (hS.pick [2]) ?_
       refine K.p 8 rfl (.pointer (some ⟨p_26, 0, none⟩)) (hS.pick [2]) ?_
       refine K.p 9 rfl (.pointer (some ⟨p_26, 2, none⟩)) (hS.pick [2]) ?_
       refine K.o_ 10 rfl (.int .i64 (lineL S.pc)) (fun w hS => ((hS.blk 0 rfl x_37).cell rfl)) (hS.pick [2]) ?_
       refine K.m 11 rfl (fun w hS => K.QR.nice (v := .bool (((lineL S.pc) : Int) == (0 : Int))) (by kernel_rfl) (congrArg Value.bool (beq_eq_false_iff_ne.2 (rline_f hb_49 (by assumption))))) (hS.pick [2]) ?_
       refine K.DW.l 6 rfl (by kernel_rfl) (by kernel_rfl) (K.OW.gcall hS [3] [0, 1, 2, 4, 5, 6, 7] [.pointer (some ⟨p_22, 0, none⟩)] (rdDoneB_ok _ _ S _ x_36) ?_)
       clear hS; rintro _ _ w ⟨rfl, rfl⟩ hS
       replace hS : K.Sat w0 [g1, l_44, l_47, h1, gl_12, g_5, g_2, fr] w := hS
       refine ⟨.inl (hS.pick [3]), ?_⟩
       cases hb_50 : S.done
       ·
        refine K.b 12 rfl (.bool false) (hS.pick [3]) ?_
        refine K.b 13 rfl (.bool false) (hS.pick [3]) ?_
        refine K.b 14 rfl (.bool false) (hS.pick [3]) ?_
        refine K.p 15 rfl (.pointer (some ⟨p_22, 0, none⟩)) (hS.pick [3]) ?_
        refine K.p 17 rfl (.pointer (some ⟨p_26, 0, none⟩)) (hS.pick [3]) ?_
        refine K.p 18 rfl (.pointer (some ⟨p_26, 0, none⟩)) (hS.pick [3]) ?_
        refine K.p 19 rfl (.pointer (some ⟨p_26, 4, none⟩)) (hS.pick [3]) ?_
        refine K.o_ 20 rfl (.int .u64 (rdWord S)) (fun w hS => ((hS.blk 0 rfl x_37).cell rfl)) (hS.pick [3]) ?_
        refine K.DW.l 16 rfl (by kernel_rfl) (by kernel_rfl) (K.OW.gcall hS [0] [1, 2, 3, 4, 5, 6, 7] [.pointer (some ⟨p_22, 0, none⟩)] (rdWord_ok _ _ S _ x_36) ?_)
        clear hS; rintro _ _ w ⟨rfl, rfl⟩ hS
        replace hS : K.Sat w0 [g1, l_44, l_47, h1, gl_12, g_5, g_2, fr] w := hS
        refine ⟨.inl (hS.pick [3]), ?_⟩
        refine K.c 21 rfl (K.QR.nice (v := .bool (((rdWord S) : Int) != ((rdWord S) : Int))) (by kernel_rfl) (congrArg Value.bool (bne_eq_false_iff_eq.2 (rfl)))) (hS.pick [3]) ?_
        refine K.b 22 rfl (.bool false) (hS.pick [3]) ?_
        refine K.b 23 rfl (.bool false) (hS.pick [3]) ?_
        refine K.p 24 rfl (.pointer (some ⟨p_22, 0, none⟩)) (hS.pick [3]) ?_
        refine K.p 26 rfl (.pointer (some ⟨p_26, 0, none⟩)) (hS.pick [3]) ?_
        refine K.p 27 rfl (.pointer (some ⟨p_26, 0, none⟩)) (hS.pick [3]) ?_
        refine K.p 28 rfl (.pointer (some ⟨p_26, 5, none⟩)) (hS.pick [3]) ?_
        refine K.o_ 29 rfl (.int .i64 (rdWhen S)) (fun w hS => ((hS.blk 0 rfl x_37).cell rfl)) (hS.pick [3]) ?_
        refine K.DW.l 25 rfl (by kernel_rfl) (by kernel_rfl) (K.OW.gcall hS [0] [1, 2, 3, 4, 5, 6, 7] [.pointer (some ⟨p_22, 0, none⟩)] (rdWhen_ok _ _ S _ x_36) ?_)
        clear hS; rintro _ _ w ⟨rfl, rfl⟩ hS
        replace hS : K.Sat w0 [g1, l_44, l_47, h1, gl_12, g_5, g_2, fr] w := hS
        refine ⟨.inl (hS.pick [3]), ?_⟩
        refine K.c 30 rfl (K.QR.nice (v := .bool (((rdWhen S) : Int) != ((rdWhen S) : Int))) (by kernel_rfl) (congrArg Value.bool (bne_eq_false_iff_eq.2 (rfl)))) (hS.pick [3]) ?_
        refine K.b 31 rfl (.bool false) (hS.pick [3]) ?_
        refine K.DW.done (by kernel_rfl) ?_
        refine K.t (K.f (K.k ?_))
        refine K.blk_normal ?_
        refine K.t (K.g (K.q [.int .i64 ((j : Nat) : Int)] ?_))
        refine K.a (K.QR.n64 ((((j : Nat) : Int) : Int) + (1 : Int)) ((j + 1 : Nat) : Int) (by kernel_rfl) (by omega)) ?_
        refine K.q [.int .i64 ((j + 1 : Nat) : Int)] (K.z (K.t ?_))
        refine ⟨_, ?_, j + 1, S, gt, (act7 M ((lns c).toNat) (c.th.toNat) (ls.getD j pk0).act), g1, h1, l_44, l_47, rfl, ⟨by rfl, by rfl, by rfl, by rfl, by rfl, by rfl, by rfl, by rfl, by rfl, trivial⟩, (by omega), (by assumption), (by assumption), (by assumption), x_36, x_37, x_45, x_48, hS.pick [3, 0, 4, 1, 2, 5, 6, 7]⟩
        omega
       ·cases (hb_50.symm.trans (show S.done = false from hb_49))
      ·
       refine K.KW.gdrawn [2] hS (by kernel_rfl) ?_
       clear hS; intro w hS
       refine K.p 0 rfl (.pointer (some ⟨p_8, 0, none⟩)) (hS.pick [2]) ?_
       refine K.b 1 rfl (.pointer (some ⟨r_10, 0, none⟩)) (hS.pick [2]) ?_
       refine K.DW.l 2 rfl (by kernel_rfl) rfl (K.OW.gcall hS [1, 0] [2, 3, 4, 5, 6, 7] [.pointer (some ⟨p_8, 0, none⟩), .pointer (some ⟨r_10, 0, none⟩)] (same7_ok _ _ _ _ _ _ _ _ _ _ x_45 x_48) ?_)
       clear hS; rintro _ _ w ⟨rfl, rfl⟩ hS
       replace hS : K.Sat w0 [l_44, l_47, h1, g1, gl_12, g_5, g_2, fr] w := hS
       refine ⟨.inl (hS.pick [2]), ?_⟩
       refine K.b 3 rfl (.bool false) (hS.pick [2]) ?_
       refine K.b 4 rfl (.bool false) (hS.pick [2]) ?_
       refine K.p 5 rfl (.pointer (some ⟨p_22, 0, none⟩)) (hS.pick [2]) ?_
       refine K.p 7 rfl (.pointer (some ⟨p_26, 0, none⟩)) (hS.pick [2]) ?_
       refine K.p 8 rfl (.pointer (some ⟨p_26, 0, none⟩)) (hS.pick [2]) ?_
       refine K.p 9 rfl (.pointer (some ⟨p_26, 2, none⟩)) (hS.pick [2]) ?_
       refine K.o_ 10 rfl (.int .i64 (lineL S.pc)) (fun w hS => ((hS.blk 0 rfl x_37).cell rfl)) (hS.pick [2]) ?_
       refine K.m 11 rfl (fun w hS => K.QR.nice (v := .bool (((lineL S.pc) : Int) == (0 : Int))) (by kernel_rfl) (congrArg Value.bool (beq_iff_eq.2 (rline_t hb_49)))) (hS.pick [2]) ?_
       refine K.DW.l 6 rfl (by kernel_rfl) (by kernel_rfl) (K.OW.gcall hS [3] [0, 1, 2, 4, 5, 6, 7] [.pointer (some ⟨p_22, 0, none⟩)] (rdDoneB_ok _ _ S _ x_36) ?_)
       clear hS; rintro _ _ w ⟨rfl, rfl⟩ hS
       replace hS : K.Sat w0 [g1, l_44, l_47, h1, gl_12, g_5, g_2, fr] w := hS
       refine ⟨.inl (hS.pick [3]), ?_⟩
       cases hb_51 : S.done
       ·cases (hb_51.symm.trans (show S.done = true from hb_49))
       ·
        refine K.b 12 rfl (.bool false) (hS.pick [3]) ?_
        refine K.b 13 rfl (.bool false) (hS.pick [3]) ?_
        refine K.b 14 rfl (.bool false) (hS.pick [3]) ?_
        refine K.p 15 rfl (.pointer (some ⟨p_22, 0, none⟩)) (hS.pick [3]) ?_
        refine K.p 17 rfl (.pointer (some ⟨p_26, 0, none⟩)) (hS.pick [3]) ?_
        refine K.p 18 rfl (.pointer (some ⟨p_26, 0, none⟩)) (hS.pick [3]) ?_
        refine K.p 19 rfl (.pointer (some ⟨p_26, 4, none⟩)) (hS.pick [3]) ?_
        refine K.o_ 20 rfl (.int .u64 (rdWord S)) (fun w hS => ((hS.blk 0 rfl x_37).cell rfl)) (hS.pick [3]) ?_
        refine K.DW.l 16 rfl (by kernel_rfl) (by kernel_rfl) (K.OW.gcall hS [0] [1, 2, 3, 4, 5, 6, 7] [.pointer (some ⟨p_22, 0, none⟩)] (rdWord_ok _ _ S _ x_36) ?_)
        clear hS; rintro _ _ w ⟨rfl, rfl⟩ hS
        replace hS : K.Sat w0 [g1, l_44, l_47, h1, gl_12, g_5, g_2, fr] w := hS
        refine ⟨.inl (hS.pick [3]), ?_⟩
        refine K.c 21 rfl (K.QR.nice (v := .bool (((rdWord S) : Int) != ((rdWord S) : Int))) (by kernel_rfl) (congrArg Value.bool (bne_eq_false_iff_eq.2 (rfl)))) (hS.pick [3]) ?_
        refine K.b 22 rfl (.bool false) (hS.pick [3]) ?_
        refine K.b 23 rfl (.bool false) (hS.pick [3]) ?_
        refine K.p 24 rfl (.pointer (some ⟨p_22, 0, none⟩)) (hS.pick [3]) ?_
        refine K.p 26 rfl (.pointer (some ⟨p_26, 0, none⟩)) (hS.pick [3]) ?_
        refine K.p 27 rfl (.pointer (some ⟨p_26, 0, none⟩)) (hS.pick [3]) ?_
        refine K.p 28 rfl (.pointer (some ⟨p_26, 5, none⟩)) (hS.pick [3]) ?_
        refine K.o_ 29 rfl (.int .i64 (rdWhen S)) (fun w hS => ((hS.blk 0 rfl x_37).cell rfl)) (hS.pick [3]) ?_
        refine K.DW.l 25 rfl (by kernel_rfl) (by kernel_rfl) (K.OW.gcall hS [0] [1, 2, 3, 4, 5, 6, 7] [.pointer (some ⟨p_22, 0, none⟩)] (rdWhen_ok _ _ S _ x_36) ?_)
        clear hS; rintro _ _ w ⟨rfl, rfl⟩ hS
        replace hS : K.Sat w0 [g1, l_44, l_47, h1, gl_12, g_5, g_2, fr] w := hS
        refine ⟨.inl (hS.pick [3]), ?_⟩
        refine K.c 30 rfl (K.QR.nice (v := .bool (((rdWhen S) : Int) != ((rdWhen S) : Int))) (by kernel_rfl) (congrArg Value.bool (bne_eq_false_iff_eq.2 (rfl)))) (hS.pick [3]) ?_
        refine K.b 31 rfl (.bool false) (hS.pick [3]) ?_
        refine K.DW.done (by kernel_rfl) ?_
        refine K.t (K.f (K.k ?_))
        refine K.blk_normal ?_
        refine K.t (K.g (K.q [.int .i64 ((j : Nat) : Int)] ?_))
        refine K.a (K.QR.n64 ((((j : Nat) : Int) : Int) + (1 : Int)) ((j + 1 : Nat) : Int) (by kernel_rfl) (by omega)) ?_
        refine K.q [.int .i64 ((j + 1 : Nat) : Int)] (K.z (K.t ?_))
        refine ⟨_, ?_, j + 1, S, gt, (act7 M ((lns c).toNat) (c.th.toNat) (ls.getD j pk0).act), g1, h1, l_44, l_47, rfl, ⟨by rfl, by rfl, by rfl, by rfl, by rfl, by rfl, by rfl, by rfl, by rfl, trivial⟩, (by omega), (by assumption), (by assumption), (by assumption), x_36, x_37, x_45, x_48, hS.pick [3, 0, 4, 1, 2, 5, 6, 7]⟩
        omega
     ·
      refine K.z (K.t (K.h (K.s (K.g (K.q [.pointer (some ⟨p_22, 0, none⟩), .pointer (some ⟨p_8, 0, none⟩)] ?_)))))
      refine K.l (K.OW.gcall hS [1, 3] [0, 2, 4, 5, 6, 7] [.pointer (some ⟨p_22, 0, none⟩), .pointer (some ⟨p_8, 0, none⟩)] (rdStep_ok _ _ _ _ _ _ S M _ _ x_36 x_38 (by assumption) (by assumption)) ?_)
      clear hS; rintro _ _ w ⟨g_52, l_53, rfl, rfl, h_54, x_55⟩ hS
      replace hS : K.Sat w0 [g_52, l_53, h1, gl_12, m1, g_5, g_2, fr] w := hS
      obtain ⟨hS_56, hM_57⟩ := (rdStep_good2 (by assumption) (by assumption) : (rdStep ((lns c).toNat) (c.th.toNat) S M).1.good ∧ (rdStep ((lns c).toNat) (c.th.toNat) S M).2.good)
      cases hb_58 : (rdStep ((lns c).toNat) (c.th.toNat) S M).1.done
      ·
       refine K.q [.bool false] (K.z (K.t (K.s (K.g (K.q [.pointer (some ⟨p_26, 0, none⟩), .pointer (some ⟨r_10, 0, none⟩)] ?_)))))
       refine K.l (K.OW.gcall hS [2, 4] [0, 1, 3, 5, 6, 7] [.pointer (some ⟨p_26, 0, none⟩), .pointer (some ⟨r_10, 0, none⟩)] (rrdStep_ok _ _ _ _ _ _ S M gt _ _ x_37 x_39 (by assumption) (by assumption) (by assumption)) ?_)
       clear hS; rintro _ _ w ⟨g_59, l_60, u_61, rfl, rfl, h_62, k_63, x_64⟩ hS
       replace hS : K.Sat w0 [g_59, l_60, g_52, l_53, gl_12, g_5, g_2, fr] w := hS
       refine K.z (K.t (K.s (K.g (K.q [.bool false, .pointer (some ⟨p_26, 0, none⟩), .pointer (some ⟨p_26, 0, none⟩), .pointer (some ⟨p_26, 2, none⟩)] ?_))))
       refine K.d (.int .i64 (lineL (rdStep ((lns c).toNat) (c.th.toNat) S M).1.pc)) ((hS.blk 0 rfl h_62).cell rfl) ?_
       refine K.xe ((lineL (rdStep ((lns c).toNat) (c.th.toNat) S M).1.pc) : Int) (0 : Int) (rline_f hb_58 (by assumption)) ?_
       refine K.q [.bool false] (K.z (K.t (K.f (K.k (K.t (K.s ?_))))))
       refine K.KW.gdrawn [0] hS (by kernel_rfl) ?_
       clear hS; intro w hS
       refine K.p 0 rfl (.pointer (some ⟨p_8, 0, none⟩)) (hS.pick [0]) ?_
       refine K.b 1 rfl (.pointer (some ⟨r_10, 0, none⟩)) (hS.pick [0]) ?_
       refine K.DW.l 2 rfl (by kernel_rfl) rfl (K.OW.gcall hS [3, 1] [0, 2, 4, 5, 6, 7] [.pointer (some ⟨p_8, 0, none⟩), .pointer (some ⟨r_10, 0, none⟩)] (same7_ok _ _ _ _ _ _ _ _ _ _ x_55 x_64) ?_)
       clear hS; rintro _ _ w ⟨rfl, rfl⟩ hS
       replace hS : K.Sat w0 [l_53, l_60, g_59, g_52, gl_12, g_5, g_2, fr] w := hS
       refine ⟨.inl (hS.pick [2]), ?_⟩
       refine K.b 3 rfl (.bool false) (hS.pick [2]) ?_
       refine K.b 4 rfl (.bool false) (hS.pick [2]) ?_
       refine K.p 5 rfl (.pointer (some ⟨p_22, 0, none⟩)) (hS.pick [2]) ?_
       refine K.p 7 rfl (.pointer (some ⟨p_26, 0, none⟩)) (hS.pick [2]) ?_
       refine K.p 8 rfl (.pointer (some ⟨p_26, 0, none⟩)) (hS.pick [2]) ?_
       refine K.p 9 rfl (.pointer (some ⟨p_26, 2, none⟩)) (hS.pick [2]) ?_
       refine K.o_ 10 rfl (.int .i64 (lineL (rdStep ((lns c).toNat) (c.th.toNat) S M).1.pc)) (fun w hS => ((hS.blk 0 rfl h_62).cell rfl)) (hS.pick [2]) ?_
       refine K.m 11 rfl (fun w hS => K.QR.nice (v := .bool (((lineL (rdStep ((lns c).toNat) (c.th.toNat) S M).1.pc) : Int) == (0 : Int))) (by kernel_rfl) (congrArg Value.bool (beq_eq_false_iff_ne.2 (rline_f hb_58 (by assumption))))) (hS.pick [2]) ?_
       refine K.DW.l 6 rfl (by kernel_rfl) (by kernel_rfl) (K.OW.gcall hS [3] [0, 1, 2, 4, 5, 6, 7] [.pointer (some ⟨p_22, 0, none⟩)] (rdDoneB_ok _ _ (rdStep ((lns c).toNat) (c.th.toNat) S M).1 _ h_54) ?_)
       clear hS; rintro _ _ w ⟨rfl, rfl⟩ hS
       replace hS : K.Sat w0 [g_52, l_53, l_60, g_59, gl_12, g_5, g_2, fr] w := hS
       refine ⟨.inl (hS.pick [3]), ?_⟩
       cases hb_65 : (rdStep ((lns c).toNat) (c.th.toNat) S M).1.done
       ·
        refine K.b 12 rfl (.bool false) (hS.pick [3]) ?_
        refine K.b 13 rfl (.bool false) (hS.pick [3]) ?_
        refine K.b 14 rfl (.bool false) (hS.pick [3]) ?_
        refine K.p 15 rfl (.pointer (some ⟨p_22, 0, none⟩)) (hS.pick [3]) ?_
        refine K.p 17 rfl (.pointer (some ⟨p_26, 0, none⟩)) (hS.pick [3]) ?_
        refine K.p 18 rfl (.pointer (some ⟨p_26, 0, none⟩)) (hS.pick [3]) ?_
        refine K.p 19 rfl (.pointer (some ⟨p_26, 4, none⟩)) (hS.pick [3]) ?_
        refine K.o_ 20 rfl (.int .u64 (rdWord (rdStep ((lns c).toNat) (c.th.toNat) S M).1)) (fun w hS => ((hS.blk 0 rfl h_62).cell rfl)) (hS.pick [3]) ?_
        refine K.DW.l 16 rfl (by kernel_rfl) (by kernel_rfl) (K.OW.gcall hS [0] [1, 2, 3, 4, 5, 6, 7] [.pointer (some ⟨p_22, 0, none⟩)] (rdWord_ok _ _ (rdStep ((lns c).toNat) (c.th.toNat) S M).1 _ h_54) ?_)
        clear hS; rintro _ _ w ⟨rfl, rfl⟩ hS
        replace hS : K.Sat w0 [g_52, l_53, l_60, g_59, gl_12, g_5, g_2, fr] w := hS
        refine ⟨.inl (hS.pick [3]), ?_⟩
        refine K.c 21 rfl (K.QR.nice (v := .bool (((rdWord (rdStep ((lns c).toNat) (c.th.toNat) S M).1) : Int) != ((rdWord (rdStep ((lns c).toNat) (c.th.toNat) S M).1) : Int))) (by kernel_rfl) (congrArg Value.bool (bne_eq_false_iff_eq.2 (rfl)))) (hS.pick [3]) ?_
        refine K.b 22 rfl (.bool false) (hS.pick [3]) ?_
        refine K.b 23 rfl (.bool false) (hS.pick [3]) ?_
        refine K.p 24 rfl (.pointer (some ⟨p_22, 0, none⟩)) (hS.pick [3]) ?_
        refine K.p 26 rfl (.pointer (some ⟨p_26, 0, none⟩)) (hS.pick [3]) ?_
        refine K.p 27 rfl (.pointer (some ⟨p_26, 0, none⟩)) (hS.pick [3]) ?_
        refine K.p 28 rfl (.pointer (some ⟨p_26, 5, none⟩)) (hS.pick [3]) ?_
        refine K.o_ 29 rfl (.int .i64 (rdWhen (rdStep ((lns c).toNat) (c.th.toNat) S M).1)) (fun w hS => ((hS.blk 0 rfl h_62).cell rfl)) (hS.pick [3]) ?_
        refine K.DW.l 25 rfl (by kernel_rfl) (by kernel_rfl) (K.OW.gcall hS [0] [1, 2, 3, 4, 5, 6, 7] [.pointer (some ⟨p_22, 0, none⟩)] (rdWhen_ok _ _ (rdStep ((lns c).toNat) (c.th.toNat) S M).1 _ h_54) ?_)
        clear hS; rintro _ _ w ⟨rfl, rfl⟩ hS
        replace hS : K.Sat w0 [g_52, l_53, l_60, g_59, gl_12, g_5, g_2, fr] w := hS
        refine ⟨.inl (hS.pick [3]), ?_⟩
        refine K.c 30 rfl (K.QR.nice (v := .bool (((rdWhen (rdStep ((lns c).toNat) (c.th.toNat) S M).1) : Int) != ((rdWhen (rdStep ((lns c).toNat) (c.th.toNat) S M).1) : Int))) (by kernel_rfl) (congrArg Value.bool (bne_eq_false_iff_eq.2 (rfl)))) (hS.pick [3]) ?_
        refine K.b 31 rfl (.bool false) (hS.pick [3]) ?_
        refine K.DW.done (by kernel_rfl) ?_
        refine K.t (K.f (K.k ?_))
        refine K.blk_normal ?_
        refine K.t (K.g (K.q [.int .i64 ((j : Nat) : Int)] ?_))
        refine K.a (K.QR.n64 ((((j : Nat) : Int) : Int) + (1 : Int)) ((j + 1 : Nat) : Int) (by kernel_rfl) (by omega)) ?_
        refine K.q [.int .i64 ((j + 1 : Nat) : Int)] (K.z (K.t ?_))
        refine ⟨_, ?_, j + 1, (rdStep ((lns c).toNat) (c.th.toNat) S M).1, u_61, ((rdStep ((lns c).toNat) (c.th.toNat) S M).2), g_52, g_59, l_53, l_60, rfl, ⟨by rfl, by rfl, by rfl, by rfl, by rfl, by rfl, by rfl, by rfl, by rfl, trivial⟩, (by omega), (by assumption), (by assumption), (by assumption), h_54, h_62, x_55, x_64, hS.pick [3, 0, 4, 1, 2, 5, 6, 7]⟩
        omega
       ·cases (hb_65.symm.trans (show (rdStep ((lns c).toNat) (c.th.toNat) S M).1.done = false from hb_58))
      ·
       refine K.q [.bool true] (K.z (K.t (K.s (K.g (K.q [.pointer (some ⟨p_26, 0, none⟩), .pointer (some ⟨r_10, 0, none⟩)] ?_)))))
       refine K.l (K.OW.gcall hS [2, 4] [0, 1, 3, 5, 6, 7] [.pointer (some ⟨p_26, 0, none⟩), .pointer (some ⟨r_10, 0, none⟩)] (rrdStep_ok _ _ _ _ _ _ S M gt _ _ x_37 x_39 (by assumption) (by assumption) (by assumption)) ?_)
       clear hS; rintro _ _ w ⟨g_66, l_67, u_68, rfl, rfl, h_69, k_70, x_71⟩ hS
       replace hS : K.Sat w0 [g_66, l_67, g_52, l_53, gl_12, g_5, g_2, fr] w := hS
       refine K.z (K.t (K.s (K.g (K.q [.bool true, .pointer (some ⟨p_26, 0, none⟩), .pointer (some ⟨p_26, 0, none⟩), .pointer (some ⟨p_26, 2, none⟩)] ?_))))
       refine K.d (.int .i64 (lineL (rdStep ((lns c).toNat) (c.th.toNat) S M).1.pc)) ((hS.blk 0 rfl h_69).cell rfl) ?_
       refine K.ye ((lineL (rdStep ((lns c).toNat) (c.th.toNat) S M).1.pc) : Int) (0 : Int) (rline_t hb_58) ?_
       refine K.q [.bool false] (K.z (K.t (K.f (K.k (K.t (K.s ?_))))))
       refine K.KW.gdrawn [0] hS (by kernel_rfl) ?_
       clear hS; intro w hS
       refine K.p 0 rfl (.pointer (some ⟨p_8, 0, none⟩)) (hS.pick [0]) ?_
       refine K.b 1 rfl (.pointer (some ⟨r_10, 0, none⟩)) (hS.pick [0]) ?_
       refine K.DW.l 2 rfl (by kernel_rfl) rfl (K.OW.gcall hS [3, 1] [0, 2, 4, 5, 6, 7] [.pointer (some ⟨p_8, 0, none⟩), .pointer (some ⟨r_10, 0, none⟩)] (same7_ok _ _ _ _ _ _ _ _ _ _ x_55 x_71) ?_)
       clear hS; rintro _ _ w ⟨rfl, rfl⟩ hS
       replace hS : K.Sat w0 [l_53, l_67, g_66, g_52, gl_12, g_5, g_2, fr] w := hS
       refine ⟨.inl (hS.pick [2]), ?_⟩
       refine K.b 3 rfl (.bool false) (hS.pick [2]) ?_
       refine K.b 4 rfl (.bool false) (hS.pick [2]) ?_
       refine K.p 5 rfl (.pointer (some ⟨p_22, 0, none⟩)) (hS.pick [2]) ?_
       refine K.p 7 rfl (.pointer (some ⟨p_26, 0, none⟩)) (hS.pick [2]) ?_
       refine K.p 8 rfl (.pointer (some ⟨p_26, 0, none⟩)) (hS.pick [2]) ?_
       refine K.p 9 rfl (.pointer (some ⟨p_26, 2, none⟩)) (hS.pick [2]) ?_
       refine K.o_ 10 rfl (.int .i64 (lineL (rdStep ((lns c).toNat) (c.th.toNat) S M).1.pc)) (fun w hS => ((hS.blk 0 rfl h_69).cell rfl)) (hS.pick [2]) ?_
       refine K.m 11 rfl (fun w hS => K.QR.nice (v := .bool (((lineL (rdStep ((lns c).toNat) (c.th.toNat) S M).1.pc) : Int) == (0 : Int))) (by kernel_rfl) (congrArg Value.bool (beq_iff_eq.2 (rline_t hb_58)))) (hS.pick [2]) ?_
       refine K.DW.l 6 rfl (by kernel_rfl) (by kernel_rfl) (K.OW.gcall hS [3] [0, 1, 2, 4, 5, 6, 7] [.pointer (some ⟨p_22, 0, none⟩)] (rdDoneB_ok _ _ (rdStep ((lns c).toNat) (c.th.toNat) S M).1 _ h_54) ?_)
       clear hS; rintro _ _ w ⟨rfl, rfl⟩ hS
       replace hS : K.Sat w0 [g_52, l_53, l_67, g_66, gl_12, g_5, g_2, fr] w := hS
       refine ⟨.inl (hS.pick [3]), ?_⟩
       cases hb_72 : (rdStep ((lns c).toNat) (c.th.toNat) S M).1.done
       ·cases (hb_72.symm.trans (show (rdStep ((lns c).toNat) (c.th.toNat) S M).1.done = true from hb_58))
       ·
        refine K.b 12 rfl (.bool false) (hS.pick [3]) ?_
        refine K.b 13 rfl (.bool false) (hS.pick [3]) ?_
        refine K.b 14 rfl (.bool false) (hS.pick [3]) ?_
        refine K.p 15 rfl (.pointer (some ⟨p_22, 0, none⟩)) (hS.pick [3]) ?_
        refine K.p 17 rfl (.pointer (some ⟨p_26, 0, none⟩)) (hS.pick [3]) ?_
        refine K.p 18 rfl (.pointer (some ⟨p_26, 0, none⟩)) (hS.pick [3]) ?_
        refine K.p 19 rfl (.pointer (some ⟨p_26, 4, none⟩)) (hS.pick [3]) ?_
        refine K.o_ 20 rfl (.int .u64 (rdWord (rdStep ((lns c).toNat) (c.th.toNat) S M).1)) (fun w hS => ((hS.blk 0 rfl h_69).cell rfl)) (hS.pick [3]) ?_
        refine K.DW.l 16 rfl (by kernel_rfl) (by kernel_rfl) (K.OW.gcall hS [0] [1, 2, 3, 4, 5, 6, 7] [.pointer (some ⟨p_22, 0, none⟩)] (rdWord_ok _ _ (rdStep ((lns c).toNat) (c.th.toNat) S M).1 _ h_54) ?_)
        clear hS; rintro _ _ w ⟨rfl, rfl⟩ hS
        replace hS : K.Sat w0 [g_52, l_53, l_67, g_66, gl_12, g_5, g_2, fr] w := hS
        refine ⟨.inl (hS.pick [3]), ?_⟩
        refine K.c 21 rfl (K.QR.nice (v := .bool (((rdWord (rdStep ((lns c).toNat) (c.th.toNat) S M).1) : Int) != ((rdWord (rdStep ((lns c).toNat) (c.th.toNat) S M).1) : Int))) (by kernel_rfl) (congrArg Value.bool (bne_eq_false_iff_eq.2 (rfl)))) (hS.pick [3]) ?_
        refine K.b 22 rfl (.bool false) (hS.pick [3]) ?_
        refine K.b 23 rfl (.bool false) (hS.pick [3]) ?_
        refine K.p 24 rfl (.pointer (some ⟨p_22, 0, none⟩)) (hS.pick [3]) ?_
        refine K.p 26 rfl (.pointer (some ⟨p_26, 0, none⟩)) (hS.pick [3]) ?_
        refine K.p 27 rfl (.pointer (some ⟨p_26, 0, none⟩)) (hS.pick [3]) ?_
        refine K.p 28 rfl (.pointer (some ⟨p_26, 5, none⟩)) (hS.pick [3]) ?_
        refine K.o_ 29 rfl (.int .i64 (rdWhen (rdStep ((lns c).toNat) (c.th.toNat) S M).1)) (fun w hS => ((hS.blk 0 rfl h_69).cell rfl)) (hS.pick [3]) ?_
        refine K.DW.l 25 rfl (by kernel_rfl) (by kernel_rfl) (K.OW.gcall hS [0] [1, 2, 3, 4, 5, 6, 7] [.pointer (some ⟨p_22, 0, none⟩)] (rdWhen_ok _ _ (rdStep ((lns c).toNat) (c.th.toNat) S M).1 _ h_54) ?_)
        clear hS; rintro _ _ w ⟨rfl, rfl⟩ hS
        replace hS : K.Sat w0 [g_52, l_53, l_67, g_66, gl_12, g_5, g_2, fr] w := hS
        refine ⟨.inl (hS.pick [3]), ?_⟩
        refine K.c 30 rfl (K.QR.nice (v := .bool (((rdWhen (rdStep ((lns c).toNat) (c.th.toNat) S M).1) : Int) != ((rdWhen (rdStep ((lns c).toNat) (c.th.toNat) S M).1) : Int))) (by kernel_rfl) (congrArg Value.bool (bne_eq_false_iff_eq.2 (rfl)))) (hS.pick [3]) ?_
        refine K.b 31 rfl (.bool false) (hS.pick [3]) ?_
        refine K.DW.done (by kernel_rfl) ?_
        refine K.t (K.f (K.k ?_))
        refine K.blk_normal ?_
        refine K.t (K.g (K.q [.int .i64 ((j : Nat) : Int)] ?_))
        refine K.a (K.QR.n64 ((((j : Nat) : Int) : Int) + (1 : Int)) ((j + 1 : Nat) : Int) (by kernel_rfl) (by omega)) ?_
        refine K.q [.int .i64 ((j + 1 : Nat) : Int)] (K.z (K.t ?_))
        refine ⟨_, ?_, j + 1, (rdStep ((lns c).toNat) (c.th.toNat) S M).1, u_68, ((rdStep ((lns c).toNat) (c.th.toNat) S M).2), g_52, g_66, l_53, l_67, rfl, ⟨by rfl, by rfl, by rfl, by rfl, by rfl, by rfl, by rfl, by rfl, by rfl, trivial⟩, (by omega), (by assumption), (by assumption), (by assumption), h_54, h_69, x_55, x_71, hS.pick [3, 0, 4, 1, 2, 5, 6, 7]⟩
        omega
    ·
     refine K.x ((((j : Nat) : Int) : Int) < (((ls.length : Nat) : Int) : Int)) h_40 ?_
     refine K.z (K.t (K.f ?_))
     refine K.KW.exit ?_
     refine K.thn_exit ?_
     refine K.thn_exit ?_
     refine K.blk_hit ?_
     refine K.t (K.s (K.g ?_))
     refine K.l (K.OW.gcall hS [] [0, 1, 2, 3, 4, 5, 6, 7] [] (awake13_ok _) ?_)
     clear hS; rintro _ _ w ⟨rfl, rfl⟩ hS
     replace hS : K.Sat w0 [h1, g1, gl_12, l1, m1, g_5, g_2, fr] w := hS
     refine K.q [.bool true] (K.z (K.t (K.r ?_)))
     refine ⟨.inr rfl, rfl, (.bool true), K.res1 rfl rfl, [], ?_, hS.pick [7]⟩
     exact rfl
 ·
  replace hS : K.Sat w0 [g_5, g_2, fr] w := hS.of (by simp [K.pick, K.nth])
  refine K.q [.tuple #[.pointer none, .pointer none, .pointer none, .bool false], .pointer none, .pointer none, .pointer none, .bool false, .pointer none, .pointer none, .pointer none, .bool false] (K.z (K.t (K.s (K.s (K.g (K.q [.bool false, .bool true, .bool true] (K.n_ (K.n_ (K.n_ (K.q [.bool true] (K.z (K.t (K.h (K.s ?_))))))))))))))
  refine K.g ?_
  refine K.l (K.OW.gcall hS [] [0, 1, 2] [] (awake13_ok _) ?_)
  clear hS; rintro _ _ w ⟨rfl, rfl⟩ hS
  replace hS : K.Sat w0 [g_5, g_2, fr] w := hS
  refine K.q [.bool true] (K.z (K.t (K.r (K.u ?_))))
  refine ⟨.inr rfl, rfl, (.bool true), K.res1 rfl rfl, [], ?_, hS.pick [2]⟩
  exact rfl
end Go.Proofs.Ytkmndplicmaahaa
