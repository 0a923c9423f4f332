/- The statement LinkAlone. -/
import Derived.Test.YtkmndplicmaahaaFll
import Derived.Test.YtkmndplicmaahaaKn
namespace Go.Proofs.Ytkmndplicmaahaa
open Go.RowKit
set_option linter.unusedVariables false
attribute [local irreducible] K.KW K.RW K.DW K.OW K.QR K.KC
set_option maxHeartbeats 1000000 in
set_option maxRecDepth 100000 in
theorem l13alone_ok (w0 : World) (c : Cfg) (tt ii w1 w2 : Int) (htt : isInt tt) (hii : isInt ii) (hw1 : isW w1) (hw2 : isW w2) :
  K.GC Try.prog w0 3 #[.agg #[.int .i64 c.th, .int .i64 c.sl, .int .i64 c.lo, .int .i64 c.bu], .agg #[.int .i64 tt, .int .i64 ii], .agg #[.int .u64 w1, .int .u64 w2]] [] (fun v post => v = .bool true) := by
 refine K.GC.mk (n := 162) Try.func3 rfl rfl [.agg #[.int .i64 c.th, .int .i64 c.sl, .int .i64 c.lo, .int .i64 c.bu], .agg #[.int .i64 tt, .int .i64 ii], .agg #[.int .u64 w1, .int .u64 w2]] rfl rfl ?_
 intro fr w hS
 replace hS : K.Sat w0 [fr] w := hS
 refine K.s (K.g ?_)
 refine K.l (K.OW.gnew 23 [.int .i64 c.th, .int .i64 c.sl, .int .i64 c.lo, .int .i64 c.bu] hS ?_)
 clear hS; intro w r_1 g_2 hg_3 hS
 refine K.l (K.OW.gnew 24 [.int .i64 tt, .int .i64 ii] hS ?_)
 clear hS; intro w r_4 g_5 hg_6 hS
 refine K.l (K.OW.gnew 26 [.int .u64 w1, .int .u64 w2] hS ?_)
 clear hS; intro w r_7 g_8 hg_9 hS
 refine K.q [.bool false] (K.z (K.t (K.s (K.s (K.g ?_)))))
 refine K.a (K.QR.ldN [.int .i64 c.th, .int .i64 c.sl, .int .i64 c.lo, .int .i64 c.bu] rfl rfl (by kernel_rfl) (by kernel_rfl) (K.cells (K.cl ((hS.blk 2 rfl hg_3).cell rfl) (K.cl ((hS.blk 2 rfl hg_3).cell rfl) (K.cl ((hS.blk 2 rfl hg_3).cell rfl) (K.cl ((hS.blk 2 rfl hg_3).cell rfl) K.cl0)))))) ?_
 refine K.l (K.OW.gcall hS [] [0, 1, 2, 3] [.agg #[.int .i64 c.th, .int .i64 c.sl, .int .i64 c.lo, .int .i64 c.bu]] (few09_ok _ c) ?_)
 clear hS; rintro _ _ w ⟨rfl, (⟨rfl, h_10⟩ | ⟨rfl, h_11⟩)⟩ hS
 ·
  replace hS : K.Sat w0 [g_8, g_5, g_2, fr] w := hS
  have hc_12 := h_10.1
  obtain ⟨hf_13, hf_14, hf_15, hf_16, hf_17⟩ := (show _ from (by have h := h_10; unfold fewC cfgOk at h; exact h))
  refine K.q [.bool false, .bool false] ?_
  refine K.a (K.QR.ixA 0 1 rfl rfl rfl Try.underlying24 (by kernel_rfl) (by omega) (by first | rfl | simp)) ?_
  refine K.d (.int .i64 tt) ((hS.blk 1 rfl hg_6).cell rfl) ?_
  by_cases h_18 : (tt : Int) < (0 : Int)
  ·
   refine K.y ((tt : Int) < (0 : Int)) h_18 ?_
   refine K.q [.bool true, .bool true] (K.n_ (K.n_ (K.n_ (K.n_ (K.n_ (K.q [.bool true, .bool true] (K.n_ (K.n_ (K.n_ (K.q [.bool true] (K.z (K.t (K.h (K.s ?_))))))))))))))
   refine K.g ?_
   refine K.l (K.OW.gcall hS [] [0, 1, 2, 3] [] (awake13_ok _) ?_)
   clear hS; rintro _ _ w ⟨rfl, rfl⟩ hS
   replace hS : K.Sat w0 [g_8, g_5, g_2, fr] w := hS
   refine K.q [.bool true] (K.z (K.t (K.r (K.u ?_))))
   refine ⟨.inr rfl, rfl, (.bool true), K.res1 rfl rfl, [], ?_, hS.pick [3]⟩
   exact rfl
  ·
   refine K.x ((tt : Int) < (0 : Int)) h_18 ?_
   refine K.q [.bool false, .bool false] ?_
   refine K.a (K.QR.ixA 0 1 rfl rfl rfl Try.underlying24 (by kernel_rfl) (by omega) (by first | rfl | simp)) ?_
   refine K.d (.int .i64 tt) ((hS.blk 1 rfl hg_6).cell rfl) ?_
   refine K.q [.pointer (some ⟨r_1, 0, none⟩)] ?_
   refine K.d (.int .i64 c.th) ((hS.blk 2 rfl hg_3).cell rfl) ?_
   by_cases h_19 : (tt : Int) ≥ (c.th : Int)
   ·
    refine K.y ((tt : Int) ≥ (c.th : Int)) h_19 ?_
    refine K.q [.bool true, .bool true] (K.n_ (K.n_ (K.n_ (K.q [.bool true] (K.z (K.t (K.h (K.s (K.g ?_)))))))))
    refine K.l (K.OW.gcall hS [] [0, 1, 2, 3] [] (awake13_ok _) ?_)
    clear hS; rintro _ _ w ⟨rfl, rfl⟩ hS
    replace hS : K.Sat w0 [g_8, g_5, g_2, fr] w := hS
    refine K.q [.bool true] (K.z (K.t (K.r (K.u ?_))))
    refine ⟨.inr rfl, rfl, (.bool true), K.res1 rfl rfl, [], ?_, hS.pick [3]⟩
    exact rfl
   ·
    refine K.x ((tt : Int) ≥ (c.th : Int)) h_19 ?_
    refine K.q [.bool false, .bool false] ?_
    refine K.a (K.QR.ixA 1 1 rfl rfl rfl Try.underlying24 (by kernel_rfl) (by omega) (by first | rfl | simp)) ?_
    refine K.d (.int .i64 ii) ((hS.blk 1 rfl hg_6).cell rfl) ?_
    by_cases h_20 : (ii : Int) < (0 : Int)
    ·
     refine K.y ((ii : Int) < (0 : Int)) h_20 ?_
     refine K.q [.bool true] (K.z (K.t (K.h (K.s (K.g ?_)))))
     refine K.l (K.OW.gcall hS [] [0, 1, 2, 3] [] (awake13_ok _) ?_)
     clear hS; rintro _ _ w ⟨rfl, rfl⟩ hS
     replace hS : K.Sat w0 [g_8, g_5, g_2, fr] w := hS
     refine K.q [.bool true] (K.z (K.t (K.r (K.u ?_))))
     refine ⟨.inr rfl, rfl, (.bool true), K.res1 rfl rfl, [], ?_, hS.pick [3]⟩
     exact rfl
    ·
     refine K.x ((ii : Int) < (0 : Int)) h_20 ?_
     refine K.q [.bool false] (K.z (K.t (K.f (K.k (K.t (K.s ?_))))))
     refine K.KW.gdrawn [1, 2] hS (by kernel_rfl) ?_
     clear hS; intro w hS
     refine K.m 0 rfl (fun w hS => K.QR.ldN [.int .i64 c.th, .int .i64 c.sl, .int .i64 c.lo, .int .i64 c.bu] rfl rfl (by kernel_rfl) (by kernel_rfl) (K.cells (K.cl ((hS.blk 1 rfl hg_3).cell rfl) (K.cl ((hS.blk 1 rfl hg_3).cell rfl) (K.cl ((hS.blk 1 rfl hg_3).cell rfl) (K.cl ((hS.blk 1 rfl hg_3).cell rfl) K.cl0)))))) (hS.pick [1, 2]) ?_
     refine K.m 1 rfl (fun w hS => K.QR.ixA 1 1 rfl rfl rfl Try.underlying24 (by kernel_rfl) (by omega) (by first | rfl | simp)) (hS.pick [1, 2]) ?_
     refine K.o_ 2 rfl (.int .i64 ii) (fun w hS => ((hS.blk 0 rfl hg_6).cell rfl)) (hS.pick [1, 2]) ?_
     refine K.c 3 rfl (K.QR.ixA 0 1 rfl rfl rfl Try.underlying26 (by kernel_rfl) (by omega) (by first | rfl | simp)) (hS.pick [1, 2]) ?_
     refine K.c 4 rfl (K.QR.ld1 (v := .int .u64 w1) rfl rfl (by kernel_rfl) ((hS.blk 0 rfl hg_9).cell rfl)) (hS.pick [1, 2]) ?_
     refine K.DW.l 5 rfl (by kernel_rfl) rfl (K.OW.gcall hS [] [0, 1, 2, 3] [.int .u64 w1] (rsoil_ok _ w1 (by first | assumption | exact isL.w (by assumption) | exact soilI_w _ | (unfold isW; omega))) ?_)
     clear hS; rintro _ _ w ⟨rfl, rfl⟩ hS
     replace hS : K.Sat w0 [g_8, g_5, g_2, fr] w := hS
     have hw_21 : isW (soilI w1) := soilI_w _
     refine ⟨.inl (hS.pick [1, 2]), ?_⟩
     refine K.c 6 rfl (K.QR.bd [(0, .int .i64 ii), (1, .int .u64 (soilI w1))] [.int .i64 ii, .int .u64 (soilI w1)] rfl rfl (by kernel_rfl)) (hS.pick [1, 2]) ?_
     refine K.DW.l 7 rfl (by kernel_rfl) rfl (K.OW.gbs [(0, .agg #[.int .i64 ii, .int .u64 (soilI w1)])] [.int .i64 ii, .int .u64 (soilI w1)] hS (fun w => K.bs_run (P := Try.prog) w 36 35 1 _ _ Try.underlying36 (by kernel_rfl)) ?_)
     clear hS; intro w r_22 g_23 hg_24 hS
     refine ⟨.inl (hS.pick [2, 3]), ?_⟩
     refine K.c 8 rfl (K.QR.bd [(0, .agg #[.int .i64 c.th, .int .i64 c.sl, .int .i64 c.lo, .int .i64 c.bu]), (1, .slice (some ⟨r_22, 0, none⟩) 1 1)] [.int .i64 c.th, .int .i64 c.sl, .int .i64 c.lo, .int .i64 c.bu, .slice (some ⟨r_22, 0, none⟩) 1 1] rfl rfl (by kernel_rfl)) (hS.pick [2, 3]) ?_
     refine K.DW.l 9 rfl (by kernel_rfl) rfl (K.OW.gcall hS [0] [1, 2, 3, 4] [.agg #[.int .i64 c.th, .int .i64 c.sl, .int .i64 c.lo, .int .i64 c.bu, .slice (some ⟨r_22, 0, none⟩) 1 1]] (layS_ok _ c _ _ [(⟨ii, (soilI w1)⟩ : PutM)] (fun j hj => by have : j = 0 := (by simp at hj; omega); subst this; show isInt ii; omega) (⟨by assumption, by simp⟩) _ (fun w h => K.Blk.rowE (c := cPut) pu0 (L := [(⟨ii, (soilI w1)⟩ : PutM)]) (h.blk 0 rfl hg_24) (fun _ => rfl) rfl)) ?_)
     clear hS; rintro _ _ w ⟨b_25, p_26, q_27, r_28, u_29, _, _, gl_30, l_31, m_32, rfl, rfl, hl_33, x_34, y_35, rfl, rfl, hf_36, hp_37⟩ hS
     replace hS : K.Sat w0 [g_23, gl_30, l_31, m_32, g_8, g_5, g_2, fr] w := hS
     have hok0 := (MemAt.isok x_34).1
     have hM0 : (groundM ((lns c).toNat) (c.th.toNat) (2 + c.th + c.sl).toNat [(⟨ii, (soilI w1)⟩ : PutM)]).good := ground1w_good (soilI_w _)
     have hpk0 : ∀ y, (groundM ((lns c).toNat) (c.th.toNat) (2 + c.th + c.sl).toNat [(⟨ii, (soilI w1)⟩ : PutM)]).peek ((lns c).toNat) ii = some y → y = soilI w1 := fun y h => ground1_peek ⟨hok0.2.2.2.2.2.1, hok0.2.2.2.2.2.2.1⟩ hok0.2.2.2.2.2.2.2 h
     generalize groundM ((lns c).toNat) (c.th.toNat) (2 + c.th + c.sl).toNat [(⟨ii, (soilI w1)⟩ : PutM)] = M0 at x_34 hok0 hM0 hpk0
     refine ⟨.inl (hS.pick [5, 6]), ?_⟩
     refine K.b 10 rfl (.tuple #[.pointer (some ⟨b_25, 0, none⟩), .pointer (some ⟨p_26, 0, none⟩), .pointer (some ⟨r_28, 0, none⟩), .bool true]) (hS.pick [5, 6]) ?_
     refine K.p 11 rfl (.pointer (some ⟨b_25, 0, none⟩)) (hS.pick [5, 6]) ?_
     refine K.p 12 rfl (.pointer (some ⟨p_26, 0, none⟩)) (hS.pick [5, 6]) ?_
     refine K.p 13 rfl (.pointer (some ⟨r_28, 0, none⟩)) (hS.pick [5, 6]) ?_
     refine K.p 14 rfl (.bool true) (hS.pick [5, 6]) ?_
     refine K.b 15 rfl (.pointer (some ⟨b_25, 0, none⟩)) (hS.pick [5, 6]) ?_
     refine K.b 16 rfl (.pointer (some ⟨p_26, 0, none⟩)) (hS.pick [5, 6]) ?_
     refine K.b 17 rfl (.pointer (some ⟨r_28, 0, none⟩)) (hS.pick [5, 6]) ?_
     refine K.b 18 rfl (.bool true) (hS.pick [5, 6]) ?_
     refine K.DW.done (by kernel_rfl) ?_
     refine K.t (K.s (K.s (K.g (K.q [.pointer (some ⟨p_26, 0, none⟩)] ?_))))
     refine K.a (K.QR.ixA 1 1 rfl rfl rfl Try.underlying24 (by kernel_rfl) (by omega) (by first | rfl | simp)) ?_
     refine K.d (.int .i64 ii) ((hS.blk 5 rfl hg_6).cell rfl) ?_
     refine K.l (K.OW.gcall hS [2] [0, 1, 3, 4, 5, 6, 7] [.pointer (some ⟨p_26, 0, none⟩), .int .i64 ii] (mPeek_ok _ _ _ _ _ _ _ x_34 ii (by first | omega | assumption | exact aft_int (by assumption) _ | exact ann_int (by assumption) _ (by first | omega | assumption))) ?_)
     clear hS; rintro _ _ w ⟨rfl, (⟨y_38, rfl, h_39⟩ | ⟨rfl, h_40⟩)⟩ hS
     ·
      replace hS : K.Sat w0 [l_31, g_23, gl_30, m_32, g_8, g_5, g_2, fr] w := hS
      have hw_41 : isW y_38 := peek_W (by assumption) h_39
      unfold isW at hw_41
      refine K.q [.tuple #[.int .u64 y_38, .bool true], .int .u64 y_38, .bool true, .int .u64 y_38, .bool true] (K.z (K.t (K.s (K.g (K.q [.bool true, .bool false] (K.z (K.t (K.f (K.k (K.t (K.s ?_)))))))))))
      have hpw : M0.peek ((lns c).toNat) ii = some (soilI w1) := (hpk0 _ h_39) ▸ h_39
      have hin : 0 ≤ ii ∧ ii < ((((lns c).toNat) : Nat) : Int) * 8 := by have h := peek_some h_39; omega
      have hth : 0 ≤ tt ∧ tt < (((c.th.toNat) : Nat) : Int) := by omega
      have hLA0 := LA_0 (th := tt) hok0 hpw
      refine K.g ?_
      refine K.a (K.QR.ixA 0 1 rfl rfl rfl Try.underlying24 (by kernel_rfl) (by omega) (by first | rfl | simp)) ?_
      refine K.d (.int .i64 tt) ((hS.blk 5 rfl hg_6).cell rfl) ?_
      refine K.a (K.QR.ixA 1 1 rfl rfl rfl Try.underlying24 (by kernel_rfl) (by omega) (by first | rfl | simp)) ?_
      refine K.d (.int .i64 ii) ((hS.blk 5 rfl hg_6).cell rfl) ?_
      refine K.l (K.OW.gcall hS [] [0, 1, 2, 3, 4, 5, 6, 7] [.int .i64 tt, .int .i64 ii] (newrd_ok _ tt (by first | omega | assumption) ii (by first | omega | assumption)) ?_)
      clear hS; rintro _ _ w ⟨p_42, g_43, rfl, rfl, h_44⟩ hS
      replace hS : K.Sat w0 [g_43, l_31, g_23, gl_30, m_32, g_8, g_5, g_2, fr] w := hS
      have hS_45 : RdS.good (⟨tt, ii, 0, 0, -1⟩ : RdS) := rdInit (by omega) (by omega)
      refine K.q [.pointer (some ⟨p_42, 0, none⟩)] (K.z (K.t (K.s (K.s (K.g (K.q [.int .i64 0] (K.z (K.t ?_))))))))
      refine K.KW.block ?_
      refine K.KW.loop (fun m_ F_ w_ => ∃ (j : Nat) (S : RdS) (M : MemM) (g1 : K.Cs) (l_M : K.Cs), m_ = 4 - j ∧ K.Sl F_ [(0, .agg #[.int .i64 c.th, .int .i64 c.sl, .int .i64 c.lo, .int .i64 c.bu]), (1, .agg #[.int .i64 tt, .int .i64 ii]), (2, .agg #[.int .u64 w1, .int .u64 w2]), (4, .pointer (some ⟨r_4, 0, none⟩)), (5, .pointer (some ⟨r_7, 0, none⟩)), (8, .pointer (some ⟨p_26, 0, none⟩)), (13, .pointer (some ⟨p_42, 0, none⟩)), (14, .int .i64 ((j : Nat) : Int)), (162, undef)] ∧ j ≤ 4 ∧ S.good ∧ M.good ∧ LA ((lns c).toNat) (c.th.toNat) tt ii w1 j S M ∧ g1 = [K.pt p_42 124 [.int .i64 S.t, .int .i64 S.at_, .int .i64 S.pc, .int .u64 S.word, .int .i64 S.when_]] ∧ MemAt l_M p_26 q_27 ((lns c).toNat) (c.th.toNat) M ∧ K.Sat w0 [g1, l_M, g_23, gl_30, m_32, g_8, g_5, g_2, fr] w_) ((fun (j : Nat) (S : RdS) (M : MemM) => 4 - j) 0 ⟨tt, ii, 0, 0, -1⟩ M0) ?_ ?_
      ·
       exact ⟨0, ⟨tt, ii, 0, 0, -1⟩, M0, g_43, l_31, rfl, ⟨by rfl, by rfl, by rfl, by rfl, by rfl, by rfl, by rfl, by rfl, by rfl, trivial⟩, (by omega), (rdInit htt hii), (hM0), (hLA0), h_44, x_34, hS.pick [0, 1, 2, 3, 4, 5, 6, 7, 8]⟩
      ·
       clear hS
       intro m_46 F_47 w hI
       obtain ⟨j, S, M, g1, l_M, rfl, sl_48, p_49, p_50, p_51, hLA, x_52, x_53, hS⟩ := hI
       rw [← K.Sl.puts sl_48]; clear sl_48
       refine K.s (K.s (K.g (K.q [.int .i64 ((j : Nat) : Int)] ?_)))
       by_cases h_54 : (((j : Nat) : Int) : Int) < (4 : Int)
       ·
        refine K.y ((((j : Nat) : Int) : Int) < (4 : Int)) h_54 ?_
        refine K.z (K.t (K.h (K.k (K.t (K.s ?_)))))
        refine K.KW.block ?_
        refine K.s (K.g (K.q [.pointer (some ⟨p_42, 0, none⟩), .pointer (some ⟨p_26, 0, none⟩)] ?_))
        refine K.l (K.OW.gcall hS [0, 1] [2, 3, 4, 5, 6, 7, 8] [.pointer (some ⟨p_42, 0, none⟩), .pointer (some ⟨p_26, 0, none⟩)] (rdStep_ok _ _ _ _ _ _ S M _ _ x_52 x_53 (by assumption) (by assumption)) ?_)
        clear hS; rintro _ _ w ⟨g_55, l_56, rfl, rfl, h_57, x_58⟩ hS
        replace hS : K.Sat w0 [g_55, l_56, g_23, gl_30, m_32, g_8, g_5, g_2, fr] w := hS
        obtain ⟨hS_59, hM_60⟩ := (rdStep_good2 (by assumption) (by assumption) : (rdStep ((lns c).toNat) (c.th.toNat) S M).1.good ∧ (rdStep ((lns c).toNat) (c.th.toNat) S M).2.good)
        cases hb_61 : (rdStep ((lns c).toNat) (c.th.toNat) S M).1.done
        ·
         refine K.z (K.t (K.f (K.k ?_)))
         refine K.blk_normal ?_
         refine K.t (K.g (K.q [.int .i64 ((j : Nat) : Int)] ?_))
         refine K.a (K.QR.n64 ((((j : Nat) : Int) : Int) + (1 : Int)) ((j + 1 : Nat) : Int) (by kernel_rfl) (by omega)) ?_
         refine K.q [.int .i64 ((j + 1 : Nat) : Int)] (K.z (K.t ?_))
         refine ⟨_, ?_, j + 1, (rdStep ((lns c).toNat) (c.th.toNat) S M).1, ((rdStep ((lns c).toNat) (c.th.toNat) S M).2), g_55, l_56, rfl, ⟨by rfl, by rfl, by rfl, by rfl, by rfl, by rfl, by rfl, by rfl, by rfl, trivial⟩, (by omega), (by assumption), (by assumption), (LA_step hin hth (by omega) hLA), h_57, x_58, hS.pick [0, 1, 2, 3, 4, 5, 6, 7, 8]⟩
         omega
        ·cases (hb_61.symm.trans (show (rdStep ((lns c).toNat) (c.th.toNat) S M).1.done = false from LA_nd (by omega) (LA_step hin hth (by omega) hLA)))
       ·
        refine K.x ((((j : Nat) : Int) : Int) < (4 : Int)) h_54 ?_
        refine K.z (K.t (K.f ?_))
        refine K.KW.exit ?_
        refine K.thn_exit ?_
        refine K.thn_exit ?_
        refine K.blk_hit ?_
        refine K.t (K.s (K.s ?_))
        have hj4 : j = 4 := by omega
        rw [hj4] at hLA
        refine K.KW.gdrawn [5, 6] hS (by kernel_rfl) ?_
        clear hS; intro w hS
        refine K.p 0 rfl (.pointer (some ⟨p_42, 0, none⟩)) (hS.pick [5, 6]) ?_
        refine K.b 1 rfl (.pointer (some ⟨p_26, 0, none⟩)) (hS.pick [5, 6]) ?_
        refine K.DW.l 2 rfl (by kernel_rfl) rfl (K.OW.gcall hS [0, 1] [2, 3, 4, 5, 6, 7, 8] [.pointer (some ⟨p_42, 0, none⟩), .pointer (some ⟨p_26, 0, none⟩)] (rdStep_ok _ _ _ _ _ _ S M _ _ x_52 x_53 (by assumption) (by assumption)) ?_)
        clear hS; rintro _ _ w ⟨g_62, l_63, rfl, rfl, h_64, x_65⟩ hS
        replace hS : K.Sat w0 [g_62, l_63, g_23, gl_30, m_32, g_8, g_5, g_2, fr] w := hS
        obtain ⟨hS_66, hM_67⟩ := (rdStep_good2 (by assumption) (by assumption) : (rdStep ((lns c).toNat) (c.th.toNat) S M).1.good ∧ (rdStep ((lns c).toNat) (c.th.toNat) S M).2.good)
        have h5 := LA_5 (LA_step hin hth (by omega) hLA)
        have hkl : (rdStep ((lns c).toNat) (c.th.toNat) S M).2.dev.kept.length = _ := h5.2.1.1
        have hkw : isW ((rdStep ((lns c).toNat) (c.th.toNat) S M).2.dev.kept.getD ii.toNat 0) := by rw [h5.2.2.2]; exact soilI_w _
        refine ⟨.inl (hS.pick [5, 6]), ?_⟩
        cases hb_68 : (rdStep ((lns c).toNat) (c.th.toNat) S M).1.done
        ·cases (hb_68.symm.trans (show (rdStep ((lns c).toNat) (c.th.toNat) S M).1.done = true from LA_d (LA_step hin hth (by omega) hLA)))
        ·
         refine K.b 3 rfl (.bool false) (hS.pick [5, 6]) ?_
         refine K.b 4 rfl (.bool false) (hS.pick [5, 6]) ?_
         refine K.p 5 rfl (.pointer (some ⟨p_42, 0, none⟩)) (hS.pick [5, 6]) ?_
         refine K.m 7 rfl (fun w hS => K.QR.ixA 0 1 rfl rfl rfl Try.underlying26 (by kernel_rfl) (by omega) (by first | rfl | simp)) (hS.pick [5, 6]) ?_
         refine K.o_ 8 rfl (.int .u64 w1) (fun w hS => ((hS.blk 0 rfl hg_9).cell rfl)) (hS.pick [5, 6]) ?_
         refine K.DW.l 6 rfl (by kernel_rfl) (by kernel_rfl) (K.OW.gcall hS [0] [1, 2, 3, 4, 5, 6, 7, 8] [.pointer (some ⟨p_42, 0, none⟩)] (rdWord_ok _ _ (rdStep ((lns c).toNat) (c.th.toNat) S M).1 _ h_64) ?_)
         clear hS; rintro _ _ w ⟨rfl, rfl⟩ hS
         replace hS : K.Sat w0 [g_62, l_63, g_23, gl_30, m_32, g_8, g_5, g_2, fr] w := hS
         refine ⟨.inl (hS.pick [5, 6]), ?_⟩
         refine K.DW.l 9 rfl (by kernel_rfl) (by kernel_rfl) (K.OW.gcall hS [] [0, 1, 2, 3, 4, 5, 6, 7, 8] [.int .u64 w1] (rclean_ok _ w1 (by first | assumption | exact isL.w (by assumption) | exact soilI_w _ | (unfold isW; omega))) ?_)
         clear hS; rintro _ _ w ⟨rfl, rfl⟩ hS
         replace hS : K.Sat w0 [g_62, l_63, g_23, gl_30, m_32, g_8, g_5, g_2, fr] w := hS
         have hw_69 : isL (cleanI w1) := cleanI_l _
         refine ⟨.inl (hS.pick [5, 6]), ?_⟩
         refine K.c 10 rfl (K.QR.nice (v := .bool (((rdWord (rdStep ((lns c).toNat) (c.th.toNat) S M).1) : Int) != ((cleanI w1) : Int))) (by kernel_rfl) (congrArg Value.bool (bne_eq_false_iff_eq.2 (h5.1)))) (hS.pick [5, 6]) ?_
         refine K.b 11 rfl (.bool false) (hS.pick [5, 6]) ?_
         refine K.b 12 rfl (.bool false) (hS.pick [5, 6]) ?_
         refine K.p 13 rfl (.pointer (some ⟨p_26, 0, none⟩)) (hS.pick [5, 6]) ?_
         refine K.m 16 rfl (fun w hS => K.QR.ixA 1 1 rfl rfl rfl Try.underlying24 (by kernel_rfl) (by omega) (by first | rfl | simp)) (hS.pick [5, 6]) ?_
         refine K.o_ 17 rfl (.int .i64 ii) (fun w hS => ((hS.blk 1 rfl hg_6).cell rfl)) (hS.pick [5, 6]) ?_
         refine K.p 21 rfl (.pointer (some ⟨p_42, 0, none⟩)) (hS.pick [5, 6]) ?_
         refine K.DW.l 14 rfl (by kernel_rfl) (by kernel_rfl) (K.OW.gcall hS [1] [0, 2, 3, 4, 5, 6, 7, 8] [.pointer (some ⟨p_26, 0, none⟩)] (mDevice_ok _ _ _ _ _ _ _ x_65 ) ?_)
         clear hS; rintro _ _ w ⟨rfl, rfl⟩ hS
         replace hS : K.Sat w0 [l_63, g_62, g_23, gl_30, m_32, g_8, g_5, g_2, fr] w := hS
         refine ⟨.inl (hS.pick [5, 6]), ?_⟩
         refine K.DW.l 15 rfl (by kernel_rfl) (by kernel_rfl) (K.OW.gcall hS [0] [1, 2, 3, 4, 5, 6, 7, 8] [.pointer (some ⟨q_27, 0, none⟩)] (mdKept_ok _ _ _ _ _ _ _ x_65) ?_)
         clear hS; rintro _ _ w ⟨r_70, cc_71, l_72, rfl, rfl, o_73⟩ hS
         replace hS : K.Sat w0 [l_63, l_72, g_62, g_23, gl_30, m_32, g_8, g_5, g_2, fr] w := hS
         refine ⟨.inl (hS.pick [6, 7]), ?_⟩
         obtain ⟨b_74, rfl⟩ := o_73.some_ (by have := o_73.le; omega)
         refine K.c 18 rfl (K.QR.ix ii.toNat 1 rfl rfl rfl Try.underlying46 (by kernel_rfl) (by omega) (by first | (simp; done) | omega | (simp; omega))) (hS.pick [6, 7]) ?_
         refine K.c 19 rfl (K.QR.ld1 (v := .int .u64 ((((rdStep ((lns c).toNat) (c.th.toNat) S M).2).dev.kept).getD ii.toNat 0)) rfl rfl (by kernel_rfl) (K.Own.atS (c := cU64) (d := 0) (fun _ => rfl) (hS.ownr 1 rfl o_73) rfl ii.toNat (by omega))) (hS.pick [6, 7]) ?_
         refine K.DW.l 20 rfl (by kernel_rfl) (by kernel_rfl) (K.OW.gcall hS [] [0, 1, 2, 3, 4, 5, 6, 7, 8, 9] [.int .u64 ((((rdStep ((lns c).toNat) (c.th.toNat) S M).2).dev.kept).getD ii.toNat 0)] (rclean_ok _ ((((rdStep ((lns c).toNat) (c.th.toNat) S M).2).dev.kept).getD ii.toNat 0) (by first | assumption | exact isL.w (by assumption) | exact soilI_w _ | (unfold isW; omega))) ?_)
         clear hS; rintro _ _ w ⟨rfl, rfl⟩ hS
         replace hS : K.Sat w0 [l_63, l_72, g_62, g_23, gl_30, m_32, g_8, g_5, g_2, fr] w := hS
         have hw_76 : isL (cleanI ((((rdStep ((lns c).toNat) (c.th.toNat) S M).2).dev.kept).getD ii.toNat 0)) := cleanI_l _
         refine ⟨.inl (hS.pick [6, 7]), ?_⟩
         refine K.DW.l 22 rfl (by kernel_rfl) (by kernel_rfl) (K.OW.gcall hS [2] [0, 1, 3, 4, 5, 6, 7, 8, 9] [.pointer (some ⟨p_42, 0, none⟩)] (rdWord_ok _ _ (rdStep ((lns c).toNat) (c.th.toNat) S M).1 _ h_64) ?_)
         clear hS; rintro _ _ w ⟨rfl, rfl⟩ hS
         replace hS : K.Sat w0 [g_62, l_63, l_72, g_23, gl_30, m_32, g_8, g_5, g_2, fr] w := hS
         refine ⟨.inl (hS.pick [6, 7]), ?_⟩
         refine K.c 23 rfl (K.QR.nice (v := .bool (((cleanI ((((rdStep ((lns c).toNat) (c.th.toNat) S M).2).dev.kept).getD ii.toNat 0)) : Int) != ((rdWord (rdStep ((lns c).toNat) (c.th.toNat) S M).1) : Int))) (by kernel_rfl) (congrArg Value.bool (bne_eq_false_iff_eq.2 ((congrArg cleanI h5.2.2.2).trans ((by unfold cleanI soilI; omega : cleanI (soilI w1) = cleanI w1).trans h5.1.symm))))) (hS.pick [6, 7]) ?_
         refine K.b 24 rfl (.bool false) (hS.pick [6, 7]) ?_
         refine K.DW.done (by kernel_rfl) ?_
         refine K.t (K.f (K.k (K.t (K.s ?_))))
         have hpo : (rdStep ((lns c).toNat) (c.th.toNat) S M).2.peek ((lns c).toNat) ii = some (rdWord (rdStep ((lns c).toNat) (c.th.toNat) S M).1) := h5.2.2.1.trans (congrArg some h5.1.symm)
         have hoc : cleanI (rdWord (rdStep ((lns c).toNat) (c.th.toNat) S M).1) = rdWord (rdStep ((lns c).toNat) (c.th.toNat) S M).1 := by rw [h5.1]; exact (cleanI_l _).clean
         have hSA0 := SA_0 (th := tt) (v := w2) h5.2.1 hpo hoc
         refine K.KW.gdrawn [6, 7] hS (by kernel_rfl) ?_
         clear hS; intro w hS
         refine K.m 0 rfl (fun w hS => K.QR.ixA 0 1 rfl rfl rfl Try.underlying24 (by kernel_rfl) (by omega) (by first | rfl | simp)) (hS.pick [6, 7]) ?_
         refine K.o_ 1 rfl (.int .i64 tt) (fun w hS => ((hS.blk 1 rfl hg_6).cell rfl)) (hS.pick [6, 7]) ?_
         refine K.m 2 rfl (fun w hS => K.QR.ixA 1 1 rfl rfl rfl Try.underlying24 (by kernel_rfl) (by omega) (by first | rfl | simp)) (hS.pick [6, 7]) ?_
         refine K.o_ 3 rfl (.int .i64 ii) (fun w hS => ((hS.blk 1 rfl hg_6).cell rfl)) (hS.pick [6, 7]) ?_
         refine K.p 4 rfl (.pointer (some ⟨p_42, 0, none⟩)) (hS.pick [6, 7]) ?_
         refine K.m 6 rfl (fun w hS => K.QR.ixA 1 1 rfl rfl rfl Try.underlying26 (by kernel_rfl) (by omega) (by first | rfl | simp)) (hS.pick [6, 7]) ?_
         refine K.o_ 7 rfl (.int .u64 w2) (fun w hS => ((hS.blk 0 rfl hg_9).cell rfl)) (hS.pick [6, 7]) ?_
         refine K.DW.l 5 rfl (by kernel_rfl) rfl (K.OW.gcall hS [0] [1, 2, 3, 4, 5, 6, 7, 8, 9] [.pointer (some ⟨p_42, 0, none⟩)] (rdWord_ok _ _ (rdStep ((lns c).toNat) (c.th.toNat) S M).1 _ h_64) ?_)
         clear hS; rintro _ _ w ⟨rfl, rfl⟩ hS
         replace hS : K.Sat w0 [g_62, l_63, l_72, g_23, gl_30, m_32, g_8, g_5, g_2, fr] w := hS
         refine ⟨.inl (hS.pick [6, 7]), ?_⟩
         refine K.DW.l 8 rfl (by kernel_rfl) rfl (K.OW.gcall hS [] [0, 1, 2, 3, 4, 5, 6, 7, 8, 9] [.int .i64 tt, .int .i64 ii, .int .u64 (rdWord (rdStep ((lns c).toNat) (c.th.toNat) S M).1), .int .u64 w2] (newse_ok _ tt (by first | omega | assumption) ii (by first | omega | assumption) (rdWord (rdStep ((lns c).toNat) (c.th.toNat) S M).1) (by first | assumption | exact isL.w (by assumption) | (unfold isW; omega) | exact rdWord_w (by assumption)) w2 (by first | assumption | exact isL.w (by assumption) | (unfold isW; omega) | exact rdWord_w (by assumption))) ?_)
         clear hS; rintro _ _ w ⟨p_77, g_78, rfl, rfl, h_79⟩ hS
         replace hS : K.Sat w0 [g_78, g_62, l_63, l_72, g_23, gl_30, m_32, g_8, g_5, g_2, fr] w := hS
         have hS_80 : SeS.good (⟨tt, ii, 0, (cleanI w2), -1, (cleanI (rdWord (rdStep ((lns c).toNat) (c.th.toNat) S M).1)), false, 0⟩ : SeS) := seInit (by omega) (by omega)
         refine ⟨.inl (hS.pick [7, 8]), ?_⟩
         refine K.b 9 rfl (.pointer (some ⟨p_77, 0, none⟩)) (hS.pick [7, 8]) ?_
         refine K.DW.done (by kernel_rfl) ?_
         refine K.t (K.s (K.s (K.g (K.q [.int .i64 0] (K.z (K.t ?_))))))
         refine K.KW.block ?_
         refine K.KW.loop (fun m_ F_ w_ => ∃ (i : Nat) (S2 : SeS) (M2 : MemM) (g2 : K.Cs) (l_M2 : K.Cs), m_ = 3 - i ∧ K.Sl F_ [(0, .agg #[.int .i64 c.th, .int .i64 c.sl, .int .i64 c.lo, .int .i64 c.bu]), (1, .agg #[.int .i64 tt, .int .i64 ii]), (2, .agg #[.int .u64 w1, .int .u64 w2]), (4, .pointer (some ⟨r_4, 0, none⟩)), (5, .pointer (some ⟨r_7, 0, none⟩)), (8, .pointer (some ⟨p_26, 0, none⟩)), (15, .pointer (some ⟨p_77, 0, none⟩)), (16, .int .i64 ((i : Nat) : Int)), (162, undef)] ∧ i ≤ 3 ∧ S2.good ∧ M2.good ∧ SA ((lns c).toNat) (c.th.toNat) tt ii (rdWord (rdStep ((lns c).toNat) (c.th.toNat) S M).1) (cleanI w2) i S2 M2 ∧ g2 = [K.pt p_77 132 [.int .i64 S2.t, .int .i64 S2.at_, .int .i64 S2.pc, .int .u64 S2.word, .int .i64 S2.when_, .int .u64 S2.old, .bool S2.put, .int .i64 S2.writes]] ∧ MemAt l_M2 p_26 q_27 ((lns c).toNat) (c.th.toNat) M2 ∧ K.Sat w0 [g2, g_62, l_M2, l_72, g_23, gl_30, m_32, g_8, g_5, g_2, fr] w_) ((fun (i : Nat) (S2 : SeS) (M2 : MemM) => 3 - i) 0 (⟨tt, ii, 0, (cleanI w2), -1, (cleanI (rdWord (rdStep ((lns c).toNat) (c.th.toNat) S M).1)), false, 0⟩ : SeS) ((rdStep ((lns c).toNat) (c.th.toNat) S M).2)) ?_ ?_
         ·
          exact ⟨0, (⟨tt, ii, 0, (cleanI w2), -1, (cleanI (rdWord (rdStep ((lns c).toNat) (c.th.toNat) S M).1)), false, 0⟩ : SeS), ((rdStep ((lns c).toNat) (c.th.toNat) S M).2), g_78, l_63, rfl, ⟨by rfl, by rfl, by rfl, by rfl, by rfl, by rfl, by rfl, by rfl, by rfl, trivial⟩, (by omega), (by assumption), (by assumption), (hSA0), h_79, x_65, hS.pick [0, 1, 2, 3, 4, 5, 6, 7, 8, 9, 10]⟩
         ·
          clear hS
          intro m_81 F_82 w hI
          obtain ⟨i, S2, M2, g2, l_M2, rfl, sl_83, p_84, p_85, p_86, hSA, x_87, x_88, hS⟩ := hI
          rw [← K.Sl.puts sl_83]; clear sl_83
          refine K.s (K.s (K.g (K.q [.int .i64 ((i : Nat) : Int)] ?_)))
          by_cases h_89 : (((i : Nat) : Int) : Int) < (3 : Int)
          ·
           refine K.y ((((i : Nat) : Int) : Int) < (3 : Int)) h_89 ?_
           refine K.z (K.t (K.h (K.k (K.t (K.s ?_)))))
           refine K.KW.block ?_
           refine K.s (K.g (K.q [.pointer (some ⟨p_77, 0, none⟩), .pointer (some ⟨p_26, 0, none⟩)] ?_))
           refine K.l (K.OW.gcall hS [0, 2] [1, 3, 4, 5, 6, 7, 8, 9, 10] [.pointer (some ⟨p_77, 0, none⟩), .pointer (some ⟨p_26, 0, none⟩)] (seStep_ok _ _ _ _ _ _ S2 M2 _ _ x_87 x_88 (by assumption) (by assumption)) ?_)
           clear hS; rintro _ _ w ⟨g_90, l_91, rfl, rfl, h_92, x_93⟩ hS
           replace hS : K.Sat w0 [g_90, l_91, g_62, l_72, g_23, gl_30, m_32, g_8, g_5, g_2, fr] w := hS
           obtain ⟨hS_94, hM_95⟩ := (seStep_good (by assumption) (by assumption) : (seStep ((lns c).toNat) (c.th.toNat) S2 M2).1.good ∧ (seStep ((lns c).toNat) (c.th.toNat) S2 M2).2.good)
           cases hb_96 : (seStep ((lns c).toNat) (c.th.toNat) S2 M2).1.done
           ·
            refine K.z (K.t (K.f (K.k ?_)))
            refine K.blk_normal ?_
            refine K.t (K.g (K.q [.int .i64 ((i : Nat) : Int)] ?_))
            refine K.a (K.QR.n64 ((((i : Nat) : Int) : Int) + (1 : Int)) ((i + 1 : Nat) : Int) (by kernel_rfl) (by omega)) ?_
            refine K.q [.int .i64 ((i + 1 : Nat) : Int)] (K.z (K.t ?_))
            refine ⟨_, ?_, i + 1, (seStep ((lns c).toNat) (c.th.toNat) S2 M2).1, ((seStep ((lns c).toNat) (c.th.toNat) S2 M2).2), g_90, l_91, rfl, ⟨by rfl, by rfl, by rfl, by rfl, by rfl, by rfl, by rfl, by rfl, by rfl, trivial⟩, (by omega), (by assumption), (by assumption), (SA_step hin hth (by omega) hSA), h_92, x_93, hS.pick [0, 2, 1, 3, 4, 5, 6, 7, 8, 9, 10]⟩
            omega
           ·cases (hb_96.symm.trans (show (seStep ((lns c).toNat) (c.th.toNat) S2 M2).1.done = false from SA_nd (by omega) (SA_step hin hth (by omega) hSA)))
          ·
           refine K.x ((((i : Nat) : Int) : Int) < (3 : Int)) h_89 ?_
           refine K.z (K.t (K.f ?_))
           refine K.KW.exit ?_
           refine K.thn_exit ?_
           refine K.thn_exit ?_
           refine K.blk_hit ?_
           refine K.t (K.s ?_)
           have hi3 : i = 3 := by omega
           rw [hi3] at hSA
           obtain ⟨hp3, hk3, hok3⟩ := SA_3 hSA
           have hkl3 : M2.dev.kept.length = _ := hok3.1
           have hkw3 : isW (M2.dev.kept.getD ii.toNat 0) := by rw [hk3]; exact soilI_w _
           refine K.g (K.q [.pointer (some ⟨p_26, 0, none⟩)] ?_)
           refine K.a (K.QR.ixA 1 1 rfl rfl rfl Try.underlying24 (by kernel_rfl) (by omega) (by first | rfl | simp)) ?_
           refine K.d (.int .i64 ii) ((hS.blk 8 rfl hg_6).cell rfl) ?_
           refine K.l (K.OW.gcall hS [2] [0, 1, 3, 4, 5, 6, 7, 8, 9, 10] [.pointer (some ⟨p_26, 0, none⟩), .int .i64 ii] (pkS_ok _ _ _ _ _ _ _ x_88 ii (by first | omega | assumption | exact aft_int (by assumption) _ | exact ann_int (by assumption) _ (by first | omega | assumption)) (soilI (cleanI w2)) (hp3)) ?_)
           clear hS; rintro _ _ w ⟨rfl, rfl⟩ hS
           replace hS : K.Sat w0 [l_M2, g2, g_62, l_72, g_23, gl_30, m_32, g_8, g_5, g_2, fr] w := hS
           refine K.q [.tuple #[.int .u64 (soilI (cleanI w2)), .bool true], .int .u64 (soilI (cleanI w2)), .bool true, .int .u64 (soilI (cleanI w2)), .bool true] (K.z (K.t (K.s ?_)))
           refine K.KW.gdrawn [8] hS (by kernel_rfl) ?_
           clear hS; intro w hS
           refine K.p 0 rfl (.pointer (some ⟨p_26, 0, none⟩)) (hS.pick [8]) ?_
           refine K.m 3 rfl (fun w hS => K.QR.ixA 1 1 rfl rfl rfl Try.underlying24 (by kernel_rfl) (by omega) (by first | rfl | simp)) (hS.pick [8]) ?_
           refine K.o_ 4 rfl (.int .i64 ii) (fun w hS => ((hS.blk 0 rfl hg_6).cell rfl)) (hS.pick [8]) ?_
           refine K.DW.l 1 rfl (by kernel_rfl) rfl (K.OW.gcall hS [0] [1, 2, 3, 4, 5, 6, 7, 8, 9, 10] [.pointer (some ⟨p_26, 0, none⟩)] (mDevice_ok _ _ _ _ _ _ _ x_88 ) ?_)
           clear hS; rintro _ _ w ⟨rfl, rfl⟩ hS
           replace hS : K.Sat w0 [l_M2, g2, g_62, l_72, g_23, gl_30, m_32, g_8, g_5, g_2, fr] w := hS
           refine ⟨.inl (hS.pick [8]), ?_⟩
           refine K.DW.l 2 rfl (by kernel_rfl) rfl (K.OW.gcall hS [0] [1, 2, 3, 4, 5, 6, 7, 8, 9, 10] [.pointer (some ⟨q_27, 0, none⟩)] (mdKept_ok _ _ _ _ _ _ _ x_88) ?_)
           clear hS; rintro _ _ w ⟨r_97, cc_98, l_99, rfl, rfl, o_100⟩ hS
           replace hS : K.Sat w0 [l_M2, l_99, g2, g_62, l_72, g_23, gl_30, m_32, g_8, g_5, g_2, fr] w := hS
           refine ⟨.inl (hS.pick [9]), ?_⟩
           obtain ⟨b_101, rfl⟩ := o_100.some_ (by have := o_100.le; omega)
           refine K.c 5 rfl (K.QR.ix ii.toNat 1 rfl rfl rfl Try.underlying46 (by kernel_rfl) (by omega) (by first | (simp; done) | omega | (simp; omega))) (hS.pick [9]) ?_
           refine K.c 6 rfl (K.QR.ld1 (v := .int .u64 (M2.dev.kept.getD ii.toNat 0)) rfl rfl (by kernel_rfl) (K.Own.atS (c := cU64) (d := 0) (fun _ => rfl) (hS.ownr 1 rfl o_100) rfl ii.toNat (by omega))) (hS.pick [9]) ?_
           refine K.b 7 rfl (.int .u64 (M2.dev.kept.getD ii.toNat 0)) (hS.pick [9]) ?_
           refine K.DW.done (by kernel_rfl) ?_
           refine K.t (K.s ?_)
           refine K.KW.gdrawn [8] hS (by kernel_rfl) ?_
           clear hS; intro w hS
           refine K.DW.l 0 rfl (by kernel_rfl) rfl (K.OW.gcall hS [] [0, 1, 2, 3, 4, 5, 6, 7, 8, 9, 10, 11] [] (awake13_ok _) ?_)
           clear hS; rintro _ _ w ⟨rfl, rfl⟩ hS
           replace hS : K.Sat w0 [l_M2, l_99, g2, g_62, l_72, g_23, gl_30, m_32, g_8, g_5, g_2, fr] w := hS
           refine ⟨.inl (hS.pick [8]), ?_⟩
           refine K.b 1 rfl (.bool true) (hS.pick [8]) ?_
           refine K.p 2 rfl (.pointer (some ⟨p_77, 0, none⟩)) (hS.pick [8]) ?_
           refine K.b 3 rfl (.pointer (some ⟨p_26, 0, none⟩)) (hS.pick [8]) ?_
           refine K.DW.l 4 rfl (by kernel_rfl) (by kernel_rfl) (K.OW.gcall hS [2, 0] [1, 3, 4, 5, 6, 7, 8, 9, 10, 11] [.pointer (some ⟨p_77, 0, none⟩), .pointer (some ⟨p_26, 0, none⟩)] (seStep_ok _ _ _ _ _ _ S2 M2 _ _ x_87 x_88 (by assumption) (by assumption)) ?_)
           clear hS; rintro _ _ w ⟨g_103, l_104, rfl, rfl, h_105, x_106⟩ hS
           replace hS : K.Sat w0 [g_103, l_104, l_99, g_62, l_72, g_23, gl_30, m_32, g_8, g_5, g_2, fr] w := hS
           obtain ⟨hS_107, hM_108⟩ := (seStep_good (by assumption) (by assumption) : (seStep ((lns c).toNat) (c.th.toNat) S2 M2).1.good ∧ (seStep ((lns c).toNat) (c.th.toNat) S2 M2).2.good)
           refine ⟨.inl (hS.pick [8]), ?_⟩
           cases hb_109 : (seStep ((lns c).toNat) (c.th.toNat) S2 M2).1.done
           ·cases (hb_109.symm.trans (show (seStep ((lns c).toNat) (c.th.toNat) S2 M2).1.done = true from (SA_d (SA_step hin hth (by omega) hSA)).1))
           ·
            refine K.b 5 rfl (.bool true) (hS.pick [8]) ?_
            refine K.b 6 rfl (.bool true) (hS.pick [8]) ?_
            refine K.b 7 rfl (.pointer (some ⟨p_77, 0, none⟩)) (hS.pick [8]) ?_
            refine K.DW.l 8 rfl (by kernel_rfl) (by kernel_rfl) (K.OW.gcall hS [0] [1, 2, 3, 4, 5, 6, 7, 8, 9, 10, 11] [.pointer (some ⟨p_77, 0, none⟩)] (sePut_ok _ _ (seStep ((lns c).toNat) (c.th.toNat) S2 M2).1 _ h_105) ?_)
            clear hS; rintro _ _ w ⟨rfl, rfl⟩ hS
            replace hS : K.Sat w0 [g_103, l_104, l_99, g_62, l_72, g_23, gl_30, m_32, g_8, g_5, g_2, fr] w := hS
            refine ⟨.inl (hS.pick [8]), ?_⟩
            cases hb_110 : (seStep ((lns c).toNat) (c.th.toNat) S2 M2).1.put
            ·cases (hb_110.symm.trans (show (seStep ((lns c).toNat) (c.th.toNat) S2 M2).1.put = true from (SA_d (SA_step hin hth (by omega) hSA)).2))
            ·
             refine K.b 9 rfl (.bool true) (hS.pick [8]) ?_
             refine K.b 10 rfl (.bool true) (hS.pick [8]) ?_
             refine K.p 11 rfl (.int .u64 (soilI (cleanI w2))) (hS.pick [8]) ?_
             refine K.m 13 rfl (fun w hS => K.QR.ixA 1 1 rfl rfl rfl Try.underlying26 (by kernel_rfl) (by omega) (by first | rfl | simp)) (hS.pick [8]) ?_
             refine K.o_ 14 rfl (.int .u64 w2) (fun w hS => ((hS.blk 0 rfl hg_9).cell rfl)) (hS.pick [8]) ?_
             refine K.DW.l 12 rfl (by kernel_rfl) (by kernel_rfl) (K.OW.gcall hS [] [0, 1, 2, 3, 4, 5, 6, 7, 8, 9, 10, 11] [.int .u64 (soilI (cleanI w2))] (rclean_ok _ (soilI (cleanI w2)) (by first | assumption | exact isL.w (by assumption) | exact soilI_w _ | (unfold isW; omega))) ?_)
             clear hS; rintro _ _ w ⟨rfl, rfl⟩ hS
             replace hS : K.Sat w0 [g_103, l_104, l_99, g_62, l_72, g_23, gl_30, m_32, g_8, g_5, g_2, fr] w := hS
             have hw_111 : isL (cleanI (soilI (cleanI w2))) := cleanI_l _
             refine ⟨.inl (hS.pick [8]), ?_⟩
             refine K.DW.l 15 rfl (by kernel_rfl) (by kernel_rfl) (K.OW.gcall hS [] [0, 1, 2, 3, 4, 5, 6, 7, 8, 9, 10, 11] [.int .u64 w2] (rclean_ok _ w2 (by first | assumption | exact isL.w (by assumption) | exact soilI_w _ | (unfold isW; omega))) ?_)
             clear hS; rintro _ _ w ⟨rfl, rfl⟩ hS
             replace hS : K.Sat w0 [g_103, l_104, l_99, g_62, l_72, g_23, gl_30, m_32, g_8, g_5, g_2, fr] w := hS
             have hw_112 : isL (cleanI w2) := cleanI_l _
             refine ⟨.inl (hS.pick [8]), ?_⟩
             refine K.c 16 rfl (K.QR.nice (v := .bool (((cleanI (soilI (cleanI w2))) : Int) == ((cleanI w2) : Int))) (by kernel_rfl) (congrArg Value.bool (beq_iff_eq.2 (clean_soil (cleanI_l _))))) (hS.pick [8]) ?_
             refine K.b 17 rfl (.bool true) (hS.pick [8]) ?_
             refine K.b 18 rfl (.bool true) (hS.pick [8]) ?_
             refine K.p 19 rfl (.int .u64 (M2.dev.kept.getD ii.toNat 0)) (hS.pick [8]) ?_
             refine K.m 21 rfl (fun w hS => K.QR.ixA 1 1 rfl rfl rfl Try.underlying26 (by kernel_rfl) (by omega) (by first | rfl | simp)) (hS.pick [8]) ?_
             refine K.o_ 22 rfl (.int .u64 w2) (fun w hS => ((hS.blk 0 rfl hg_9).cell rfl)) (hS.pick [8]) ?_
             refine K.DW.l 20 rfl (by kernel_rfl) (by kernel_rfl) (K.OW.gcall hS [] [0, 1, 2, 3, 4, 5, 6, 7, 8, 9, 10, 11] [.int .u64 (M2.dev.kept.getD ii.toNat 0)] (rclean_ok _ (M2.dev.kept.getD ii.toNat 0) (by first | assumption | exact isL.w (by assumption) | exact soilI_w _ | (unfold isW; omega))) ?_)
             clear hS; rintro _ _ w ⟨rfl, rfl⟩ hS
             replace hS : K.Sat w0 [g_103, l_104, l_99, g_62, l_72, g_23, gl_30, m_32, g_8, g_5, g_2, fr] w := hS
             have hw_113 : isL (cleanI (M2.dev.kept.getD ii.toNat 0)) := cleanI_l _
             refine ⟨.inl (hS.pick [8]), ?_⟩
             refine K.DW.l 23 rfl (by kernel_rfl) (by kernel_rfl) (K.OW.gcall hS [] [0, 1, 2, 3, 4, 5, 6, 7, 8, 9, 10, 11] [.int .u64 w2] (rclean_ok _ w2 (by first | assumption | exact isL.w (by assumption) | exact soilI_w _ | (unfold isW; omega))) ?_)
             clear hS; rintro _ _ w ⟨rfl, rfl⟩ hS
             replace hS : K.Sat w0 [g_103, l_104, l_99, g_62, l_72, g_23, gl_30, m_32, g_8, g_5, g_2, fr] w := hS
             have hw_114 : isL (cleanI w2) := cleanI_l _
             refine ⟨.inl (hS.pick [8]), ?_⟩
             refine K.c 24 rfl (K.QR.nice (v := .bool (((cleanI (M2.dev.kept.getD ii.toNat 0)) : Int) == ((cleanI w2) : Int))) (by kernel_rfl) (congrArg Value.bool (beq_iff_eq.2 ((congrArg cleanI hk3).trans (clean_soil (cleanI_l _)))))) (hS.pick [8]) ?_
             refine K.b 25 rfl (.bool true) (hS.pick [8]) ?_
             refine K.b 26 rfl (.bool true) (hS.pick [8]) ?_
             refine K.DW.done (by kernel_rfl) ?_
             refine K.t (K.r ?_)
             refine ⟨.inr rfl, rfl, (.bool true), K.res1 rfl rfl, [], ?_, hS.pick [11]⟩
             exact rfl
     ·
      replace hS : K.Sat w0 [l_31, g_23, gl_30, m_32, g_8, g_5, g_2, fr] w := hS
      refine K.q [.tuple #[.int .u64 0, .bool false], .int .u64 0, .bool false, .int .u64 0, .bool false] (K.z (K.t (K.s (K.g (K.q [.bool false, .bool true] (K.z (K.t (K.h (K.s (K.g ?_))))))))))
      refine K.l (K.OW.gcall hS [] [0, 1, 2, 3, 4, 5, 6, 7] [] (awake13_ok _) ?_)
      clear hS; rintro _ _ w ⟨rfl, rfl⟩ hS
      replace hS : K.Sat w0 [l_31, g_23, gl_30, m_32, g_8, g_5, g_2, fr] w := hS
      refine K.q [.bool true, .bool true, .bool true, .bool true] (K.z (K.t (K.r (K.u ?_))))
      refine ⟨.inr rfl, rfl, (.bool true), K.res1 rfl rfl, [], ?_, hS.pick [7]⟩
      exact rfl
 ·
  replace hS : K.Sat w0 [g_8, g_5, g_2, fr] w := hS
  refine K.q [.bool true, .bool true] (K.n_ (K.n_ (K.n_ (K.q [.bool true, .bool true] (K.n_ (K.n_ (K.n_ (K.n_ (K.n_ (K.q [.bool true, .bool true] (K.n_ (K.n_ (K.n_ (K.q [.bool true] ?_))))))))))))))
  refine K.z (K.t (K.h (K.s (K.g ?_))))
  refine K.l (K.OW.gcall hS [] [0, 1, 2, 3] [] (awake13_ok _) ?_)
  clear hS; rintro _ _ w ⟨rfl, rfl⟩ hS
  replace hS : K.Sat w0 [g_8, g_5, g_2, fr] w := hS
  refine K.q [.bool true] (K.z (K.t (K.r (K.u ?_))))
  refine ⟨.inr rfl, rfl, (.bool true), K.res1 rfl rfl, [], ?_, hS.pick [3]⟩
  exact rfl
end Go.Proofs.Ytkmndplicmaahaa
