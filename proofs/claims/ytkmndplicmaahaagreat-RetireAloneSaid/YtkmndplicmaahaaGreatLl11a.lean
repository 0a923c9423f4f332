/- The statement RetireAlone. -/
import Derived.Test.YtkmndplicmaahaaGreatFl11a
import Derived.Test.YtkmndplicmaahaaGreatFm11
import Derived.Test.YtkmndplicmaahaaGreatKn
namespace Go.Proofs.YtkmndplicmaahaaGreat
open Go.RowKit
set_option linter.unusedVariables false
attribute [local irreducible] K.KW K.RW K.DW K.OW K.QR K.KC
set_option maxHeartbeats 1000000 in
set_option maxRecDepth 100000 in
theorem l11alone_ok (w0 : World) (c : Cfg) (a0 a1 n0 n1 : Int) (ha0 : isInt a0) (ha1 : isInt a1) (hn0 : 0 ≤ n0 ∧ n0 ≤ 255) (hn1 : 0 ≤ n1 ∧ n1 ≤ 255) :
  K.GC Tryz.prog w0 3 #[.agg #[.int .i64 c.th, .int .i64 c.sl, .int .i64 c.lo, .int .i64 c.bu], .agg #[.int .i64 a0, .int .i64 a1], .agg #[.int .u8 n0, .int .u8 n1]] [] (fun v post => v = .bool true) := by
 refine K.GC.mk (n := 210) Tryz.func3 rfl rfl [.agg #[.int .i64 c.th, .int .i64 c.sl, .int .i64 c.lo, .int .i64 c.bu], .agg #[.int .i64 a0, .int .i64 a1], .agg #[.int .u8 n0, .int .u8 n1]] rfl rfl ?_
 intro fr w hS
 replace hS : K.Sat w0 [fr] w := hS
 refine K.s (K.g ?_)
 refine K.l (K.OW.gnew 23 [.int .i64 c.th, .int .i64 c.sl, .int .i64 c.lo, .int .i64 c.bu] hS ?_)
 clear hS; intro w r_1 g_2 hg_3 hS
 refine K.l (K.OW.gnew 24 [.int .i64 a0, .int .i64 a1] hS ?_)
 clear hS; intro w r_4 g_5 hg_6 hS
 refine K.l (K.OW.gnew 25 [.int .u8 n0, .int .u8 n1] hS ?_)
 clear hS; intro w r_7 g_8 hg_9 hS
 refine K.q [.bool false] (K.z (K.t (K.s (K.s (K.g ?_)))))
 refine K.a (K.QR.ldN [.int .i64 c.th, .int .i64 c.sl, .int .i64 c.lo, .int .i64 c.bu] rfl rfl (by kernel_rfl) (by kernel_rfl) (K.cells (K.cl ((hS.blk 2 rfl hg_3).cell rfl) (K.cl ((hS.blk 2 rfl hg_3).cell rfl) (K.cl ((hS.blk 2 rfl hg_3).cell rfl) (K.cl ((hS.blk 2 rfl hg_3).cell rfl) K.cl0)))))) ?_
 refine K.l (K.OW.gcall hS [] [0, 1, 2, 3] [.agg #[.int .i64 c.th, .int .i64 c.sl, .int .i64 c.lo, .int .i64 c.bu]] (few09_ok _ c) ?_)
 clear hS; rintro _ _ w ⟨rfl, (⟨rfl, h_10⟩ | ⟨rfl, h_11⟩)⟩ hS
 ·
  replace hS : K.Sat w0 [g_8, g_5, g_2, fr] w := hS
  have hc_12 := h_10.1
  obtain ⟨hf_13, hf_14, hf_15, hf_16, hf_17⟩ := (show _ from (by have h := h_10; unfold fewC cfgOk at h; exact h))
  refine K.q [.bool false, .bool false] ?_
  refine K.a (K.QR.ixA 0 1 rfl rfl rfl Tryz.underlying24 (by kernel_rfl) (by omega) (by first | rfl | simp)) ?_
  refine K.d (.int .i64 a0) ((hS.blk 1 rfl hg_6).cell rfl) ?_
  by_cases h_18 : (a0 : Int) < (0 : Int)
  ·
   refine K.y ((a0 : Int) < (0 : Int)) h_18 ?_
   refine K.q [.bool true, .bool true] (K.n_ (K.n_ (K.n_ (K.n_ (K.n_ (K.q [.bool true, .bool true] (K.n_ (K.n_ (K.n_ (K.q [.bool true, .bool true] (K.n_ (K.n_ (K.n_ (K.n_ ?_))))))))))))))
   refine K.n_ (K.q [.bool true] (K.z (K.t (K.h (K.s (K.g ?_))))))
   refine K.l (K.OW.gcall hS [] [0, 1, 2, 3] [] (awake11_ok _) ?_)
   clear hS; rintro _ _ w ⟨rfl, rfl⟩ hS
   replace hS : K.Sat w0 [g_8, g_5, g_2, fr] w := hS
   refine K.q [.bool true] (K.z (K.t (K.r (K.u ?_))))
   refine ⟨.inr rfl, rfl, (.bool true), K.res1 rfl rfl, [], ?_, hS.pick [3]⟩
   exact rfl
  ·
   refine K.x ((a0 : Int) < (0 : Int)) h_18 ?_
   refine K.q [.bool false, .bool false] ?_
   refine K.a (K.QR.ixA 0 1 rfl rfl rfl Tryz.underlying24 (by kernel_rfl) (by omega) (by first | rfl | simp)) ?_
   refine K.d (.int .i64 a0) ((hS.blk 1 rfl hg_6).cell rfl) ?_
   refine K.q [.pointer (some ⟨r_1, 0, none⟩)] ?_
   refine K.d (.int .i64 c.th) ((hS.blk 2 rfl hg_3).cell rfl) ?_
   by_cases h_19 : (a0 : Int) ≥ (c.th : Int)
   ·
    refine K.y ((a0 : Int) ≥ (c.th : Int)) h_19 ?_
    refine K.q [.bool true, .bool true] (K.n_ (K.n_ (K.n_ (K.q [.bool true, .bool true] (K.n_ (K.n_ (K.n_ (K.n_ (K.n_ (K.q [.bool true] (K.z (K.t (K.h (K.s ?_))))))))))))))
    refine K.g ?_
    refine K.l (K.OW.gcall hS [] [0, 1, 2, 3] [] (awake11_ok _) ?_)
    clear hS; rintro _ _ w ⟨rfl, rfl⟩ hS
    replace hS : K.Sat w0 [g_8, g_5, g_2, fr] w := hS
    refine K.q [.bool true] (K.z (K.t (K.r (K.u ?_))))
    refine ⟨.inr rfl, rfl, (.bool true), K.res1 rfl rfl, [], ?_, hS.pick [3]⟩
    exact rfl
   ·
    refine K.x ((a0 : Int) ≥ (c.th : Int)) h_19 ?_
    refine K.q [.bool false, .bool false] ?_
    refine K.a (K.QR.ixA 1 1 rfl rfl rfl Tryz.underlying24 (by kernel_rfl) (by omega) (by first | rfl | simp)) ?_
    refine K.d (.int .i64 a1) ((hS.blk 1 rfl hg_6).cell rfl) ?_
    by_cases h_20 : (a1 : Int) < (0 : Int)
    ·
     refine K.y ((a1 : Int) < (0 : Int)) h_20 ?_
     refine K.q [.bool true, .bool true] (K.n_ (K.n_ (K.n_ (K.n_ (K.n_ (K.q [.bool true] (K.z (K.t (K.h (K.s (K.g ?_)))))))))))
     refine K.l (K.OW.gcall hS [] [0, 1, 2, 3] [] (awake11_ok _) ?_)
     clear hS; rintro _ _ w ⟨rfl, rfl⟩ hS
     replace hS : K.Sat w0 [g_8, g_5, g_2, fr] w := hS
     refine K.q [.bool true] (K.z (K.t (K.r (K.u ?_))))
     refine ⟨.inr rfl, rfl, (.bool true), K.res1 rfl rfl, [], ?_, hS.pick [3]⟩
     exact rfl
    ·
     refine K.x ((a1 : Int) < (0 : Int)) h_20 ?_
     refine K.q [.bool false, .bool false] ?_
     refine K.a (K.QR.ixA 1 1 rfl rfl rfl Tryz.underlying24 (by kernel_rfl) (by omega) (by first | rfl | simp)) ?_
     refine K.d (.int .i64 a1) ((hS.blk 1 rfl hg_6).cell rfl) ?_
     refine K.q [.pointer (some ⟨r_1, 1, none⟩)] ?_
     refine K.d (.int .i64 c.sl) ((hS.blk 2 rfl hg_3).cell rfl) ?_
     by_cases h_21 : (a1 : Int) ≥ (c.sl : Int)
     ·
      refine K.y ((a1 : Int) ≥ (c.sl : Int)) h_21 ?_
      refine K.q [.bool true] (K.z (K.t (K.h (K.s (K.g ?_)))))
      refine K.l (K.OW.gcall hS [] [0, 1, 2, 3] [] (awake11_ok _) ?_)
      clear hS; rintro _ _ w ⟨rfl, rfl⟩ hS
      replace hS : K.Sat w0 [g_8, g_5, g_2, fr] w := hS
      refine K.q [.bool true] (K.z (K.t (K.r (K.u ?_))))
      refine ⟨.inr rfl, rfl, (.bool true), K.res1 rfl rfl, [], ?_, hS.pick [3]⟩
      exact rfl
     ·
      refine K.x ((a1 : Int) ≥ (c.sl : Int)) h_21 ?_
      refine K.q [.bool false] (K.z (K.t (K.f (K.k (K.t (K.s (K.g ?_)))))))
      refine K.a (K.QR.ldN [.int .i64 c.th, .int .i64 c.sl, .int .i64 c.lo, .int .i64 c.bu] rfl rfl (by kernel_rfl) (by kernel_rfl) (K.cells (K.cl ((hS.blk 2 rfl hg_3).cell rfl) (K.cl ((hS.blk 2 rfl hg_3).cell rfl) (K.cl ((hS.blk 2 rfl hg_3).cell rfl) (K.cl ((hS.blk 2 rfl hg_3).cell rfl) K.cl0)))))) ?_
      refine K.a (K.QR.ixA 0 1 rfl rfl rfl Tryz.underlying25 (by kernel_rfl) (by omega) (by first | rfl | simp)) ?_
      refine K.d (.int .u8 n0) ((hS.blk 0 rfl hg_9).cell rfl) ?_
      refine K.a (K.QR.nice (v := .int .u64 (IntKind.u64.wrap n0)) (by kernel_rfl) (congrArg (Value.int .u64) (IntWalk.u64_in _ (by omega)))) ?_
      refine K.a (K.QR.bd [(0, .int .i64 (-1)), (1, .int .u64 n0)] [.int .i64 (-1), .int .u64 n0] rfl rfl (by kernel_rfl)) ?_
      refine K.l (K.OW.gbs [(0, .agg #[.int .i64 (-1), .int .u64 n0])] [.int .i64 (-1), .int .u64 n0] hS (fun w => K.bs_run (P := Tryz.prog) w 35 34 1 _ _ Tryz.underlying35 (by kernel_rfl)) ?_)
      clear hS; intro w r_22 g_23 hg_24 hS
      refine K.a (K.QR.bd [(0, .agg #[.int .i64 c.th, .int .i64 c.sl, .int .i64 c.lo, .int .i64 c.bu]), (1, .slice (some ⟨r_22, 0, none⟩) 1 1)] [.int .i64 c.th, .int .i64 c.sl, .int .i64 c.lo, .int .i64 c.bu, .slice (some ⟨r_22, 0, none⟩) 1 1] rfl rfl (by kernel_rfl)) ?_
      refine K.l (K.OW.gcall hS [0] [1, 2, 3, 4] [.agg #[.int .i64 c.th, .int .i64 c.sl, .int .i64 c.lo, .int .i64 c.bu, .slice (some ⟨r_22, 0, none⟩) 1 1]] (layS_ok _ c _ _ [(⟨(-1), n0⟩ : PutM)] (put1_int (by omega)) (⟨by assumption, by simp⟩) _ (fun w h => K.Blk.rowE (c := cPut) pu0 (L := [(⟨(-1), n0⟩ : PutM)]) (h.blk 0 rfl hg_24) (fun _ => rfl) rfl)) ?_)
      clear hS; rintro _ _ w ⟨b_25, p_26, q_27, r_28, u_29, _, _, gl_30, l_31, m_32, rfl, rfl, hl_33, x_34, y_35, rfl, rfl, hf_36, hp_37⟩ hS
      replace hS : K.Sat w0 [g_23, gl_30, l_31, m_32, g_8, g_5, g_2, fr] w := hS
      have hA0 : AL c a0 0 n0 0 (groundM ((lns c).toNat) (c.th.toNat) (2 + c.th + c.sl).toNat [(⟨(-1), n0⟩ : PutM)]) := AL.start (by assumption) (by omega) (by unfold isW; omega)
      have hM0 := hA0.good
      generalize groundM ((lns c).toNat) (c.th.toNat) (2 + c.th + c.sl).toNat [(⟨(-1), n0⟩ : PutM)] = M0 at x_34 hA0 hM0
      refine K.q [.tuple #[.pointer (some ⟨b_25, 0, none⟩), .pointer (some ⟨p_26, 0, none⟩), .pointer (some ⟨r_28, 0, none⟩), .bool true], .pointer (some ⟨b_25, 0, none⟩), .pointer (some ⟨p_26, 0, none⟩), .pointer (some ⟨r_28, 0, none⟩), .bool true, .pointer (some ⟨b_25, 0, none⟩), .pointer (some ⟨p_26, 0, none⟩), .pointer (some ⟨r_28, 0, none⟩), .bool true] (K.z (K.t (K.s (K.g (K.q [.pointer (some ⟨b_25, 0, none⟩)] ?_)))))
      refine K.a (K.QR.ixA 0 1 rfl rfl rfl Tryz.underlying24 (by kernel_rfl) (by omega) (by first | rfl | simp)) ?_
      refine K.d (.int .i64 a0) ((hS.blk 5 rfl hg_6).cell rfl) ?_
      refine K.a (K.QR.ixA 1 1 rfl rfl rfl Tryz.underlying24 (by kernel_rfl) (by omega) (by first | rfl | simp)) ?_
      refine K.d (.int .i64 a1) ((hS.blk 5 rfl hg_6).cell rfl) ?_
      refine K.l (K.OW.gcall hS [] [0, 1, 2, 3, 4, 5, 6, 7] [.pointer (some ⟨b_25, 0, none⟩), .int .i64 a0, .int .i64 a1] (newre_ok _ b_25 a0 a1) ?_)
      clear hS; rintro _ _ w ⟨p_38, g_39, rfl, rfl, h_40⟩ hS
      replace hS : K.Sat w0 [g_39, g_23, gl_30, l_31, m_32, g_8, g_5, g_2, fr] w := hS
      have hS_41 : ResS.good ⟨a0, 0, a1, 0, 0⟩ := resInit (by omega) (by omega)
      refine K.q [.pointer (some ⟨p_38, 0, none⟩)] (K.z (K.t (K.s (K.s (K.g (K.q [.int .i64 0] (K.z (K.t ?_))))))))
      refine K.KW.block ?_
      refine K.KW.loop (fun m_ F_ w_ => ∃ (i : Nat) (S : ResS) (M : MemM) (g1 : K.Cs) (l1 : K.Cs), m_ = 5 - i ∧ K.Sl F_ [(0, .agg #[.int .i64 c.th, .int .i64 c.sl, .int .i64 c.lo, .int .i64 c.bu]), (1, .agg #[.int .i64 a0, .int .i64 a1]), (2, .agg #[.int .u8 n0, .int .u8 n1]), (4, .pointer (some ⟨r_4, 0, none⟩)), (5, .pointer (some ⟨r_7, 0, none⟩)), (6, .bool false), (7, .pointer (some ⟨b_25, 0, none⟩)), (8, .pointer (some ⟨p_26, 0, none⟩)), (10, .bool true), (11, .pointer (some ⟨p_38, 0, none⟩)), (12, .int .i64 ((i : Nat) : Int)), (210, undef)] ∧ i ≤ 5 ∧ RA c a0 a1 n0 0 i S M ∧ g1 = [K.pt p_38 96 [.pointer (some ⟨b_25, 0, none⟩), .int .i64 S.t, .int .i64 S.pc, .int .i64 S.slot, .int .i64 S.next, .int .i64 S.place]] ∧ MemAt l1 p_26 q_27 ((lns c).toNat) (c.th.toNat) M ∧ K.Sat w0 [g1, g_23, gl_30, l1, m_32, g_8, g_5, g_2, fr] w_) ((fun (i : Nat) (S : ResS) (M : MemM) => 5 - i) 0 ⟨a0, 0, a1, 0, 0⟩ M0) ?_ ?_
      ·
       exact ⟨0, ⟨a0, 0, a1, 0, 0⟩, M0, g_39, l_31, rfl, ⟨by rfl, by rfl, by rfl, by rfl, by rfl, by rfl, by rfl, by rfl, by rfl, by rfl, by rfl, by rfl, trivial⟩, (by omega), (RA.start (by omega) (by omega) hA0), h_40, x_34, hS.pick [0, 1, 2, 3, 4, 5, 6, 7, 8]⟩
      ·
       clear hS
       intro m_42 F_43 w hI
       obtain ⟨i, S, M, g1, l1, rfl, sl_44, p_45, hR, x_46, x_47, hS⟩ := hI
       rw [← K.Sl.puts sl_44]; clear sl_44
       have hSg := hR.good; have hMg := hR.mg
       refine K.s (K.s (K.g (K.q [.int .i64 ((i : Nat) : Int)] ?_)))
       by_cases h_48 : (((i : Nat) : Int) : Int) < (5 : Int)
       ·
        refine K.y ((((i : Nat) : Int) : Int) < (5 : Int)) h_48 ?_
        refine K.z (K.t (K.h (K.k (K.t (K.s ?_)))))
        refine K.KW.block ?_
        refine K.g (K.q [.pointer (some ⟨p_38, 0, none⟩), .pointer (some ⟨p_26, 0, none⟩)] ?_)
        refine K.l (K.OW.gcall hS [0, 2, 3] [1, 4, 5, 6, 7, 8] [.pointer (some ⟨p_38, 0, none⟩), .pointer (some ⟨p_26, 0, none⟩)] (reStep_ok _ _ _ _ _ _ _ c (by first | assumption | (unfold cfgOk; decide)) S M _ _ _ x_46 hl_33 x_47 (by assumption) (by assumption)) ?_)
        clear hS; rintro _ _ w ⟨g_49, l_50, rfl, rfl, h_51, x_52⟩ hS
        replace hS : K.Sat w0 [g_49, gl_30, l_50, g_23, m_32, g_8, g_5, g_2, fr] w := hS
        obtain ⟨hS_53, hM_54⟩ := (resStep_good (by first | assumption | (unfold cfgOk; decide)) (by assumption) (by assumption) : (resStep c ((lns c).toNat) (c.th.toNat) S M).1.good ∧ (resStep c ((lns c).toNat) (c.th.toNat) S M).2.good)
        refine K.z ?_
        refine K.blk_normal ?_
        refine K.t (K.g (K.q [.int .i64 ((i : Nat) : Int)] ?_))
        refine K.a (K.QR.n64 ((((i : Nat) : Int) : Int) + (1 : Int)) ((i + 1 : Nat) : Int) (by kernel_rfl) (by omega)) ?_
        refine K.q [.int .i64 ((i + 1 : Nat) : Int)] (K.z (K.t ?_))
        refine ⟨_, ?_, i + 1, (resStep c ((lns c).toNat) (c.th.toNat) S M).1, ((resStep c ((lns c).toNat) (c.th.toNat) S M).2), g_49, l_50, rfl, ⟨by rfl, by rfl, by rfl, by rfl, by rfl, by rfl, by rfl, by rfl, by rfl, by rfl, by rfl, by rfl, trivial⟩, (by omega), (hR.next (by assumption) (by omega) (by omega)), h_51, x_52, hS.pick [0, 3, 1, 2, 4, 5, 6, 7, 8]⟩
        omega
       ·
        refine K.x ((((i : Nat) : Int) : Int) < (5 : Int)) h_48 ?_
        refine K.z (K.t (K.f ?_))
        refine K.KW.exit ?_
        refine K.thn_exit ?_
        refine K.thn_exit ?_
        refine K.blk_hit ?_
        refine K.t (K.s ?_)
        have hra := hR.done (by assumption) (by omega)
        have hpi : isInt (rePlace c S) := by rw [hra.2.1]; omega
        refine K.KW.gdrawn [6] hS (by kernel_rfl) ?_
        clear hS; intro w hS
        refine K.p 0 rfl (.pointer (some ⟨b_25, 0, none⟩)) (hS.pick [6]) ?_
        refine K.m 1 rfl (fun w hS => K.QR.ixA 0 1 rfl rfl rfl Tryz.underlying24 (by kernel_rfl) (by omega) (by first | rfl | simp)) (hS.pick [6]) ?_
        refine K.o_ 2 rfl (.int .i64 a0) (fun w hS => ((hS.blk 0 rfl hg_6).cell rfl)) (hS.pick [6]) ?_
        refine K.p 3 rfl (.pointer (some ⟨p_38, 0, none⟩)) (hS.pick [6]) ?_
        refine K.m 5 rfl (fun w hS => K.QR.ixA 1 1 rfl rfl rfl Tryz.underlying24 (by kernel_rfl) (by omega) (by first | rfl | simp)) (hS.pick [6]) ?_
        refine K.o_ 6 rfl (.int .i64 a1) (fun w hS => ((hS.blk 0 rfl hg_6).cell rfl)) (hS.pick [6]) ?_
        refine K.DW.l 4 rfl (by kernel_rfl) rfl (K.OW.gcall hS [0, 2] [1, 3, 4, 5, 6, 7, 8] [.pointer (some ⟨p_38, 0, none⟩)] (rePlace_ok _ _ _ c (by first | assumption | (unfold cfgOk; decide)) S _ _ x_46 hl_33) ?_)
        clear hS; rintro _ _ w ⟨rfl, rfl⟩ hS
        replace hS : K.Sat w0 [g1, gl_30, g_23, l1, m_32, g_8, g_5, g_2, fr] w := hS
        refine ⟨.inl (hS.pick [6]), ?_⟩
        refine K.DW.l 7 rfl (by kernel_rfl) rfl (K.OW.gcall hS [] [0, 1, 2, 3, 4, 5, 6, 7, 8] [.pointer (some ⟨b_25, 0, none⟩), .int .i64 a0, .int .i64 (rePlace c S), .int .i64 a1] (newsta_ok _ b_25 a0 (rePlace c S) a1) ?_)
        clear hS; rintro _ _ w ⟨p_55, g_56, rfl, rfl, h_57⟩ hS
        replace hS : K.Sat w0 [g_56, g1, gl_30, g_23, l1, m_32, g_8, g_5, g_2, fr] w := hS
        refine ⟨.inl (hS.pick [7]), ?_⟩
        refine K.b 8 rfl (.pointer (some ⟨p_55, 0, none⟩)) (hS.pick [7]) ?_
        refine K.DW.done (by kernel_rfl) ?_
        refine K.t (K.s (K.s (K.g (K.q [.int .i64 0] (K.z (K.t ?_))))))
        refine K.KW.block ?_
        refine K.KW.loop (fun m_ F_ w_ => ∃ (k : Nat) (S1 : StaS) (M1 : MemM) (g2 : K.Cs) (l2 : K.Cs), m_ = 5 - k ∧ K.Sl F_ [(0, .agg #[.int .i64 c.th, .int .i64 c.sl, .int .i64 c.lo, .int .i64 c.bu]), (1, .agg #[.int .i64 a0, .int .i64 a1]), (2, .agg #[.int .u8 n0, .int .u8 n1]), (4, .pointer (some ⟨r_4, 0, none⟩)), (5, .pointer (some ⟨r_7, 0, none⟩)), (6, .bool false), (7, .pointer (some ⟨b_25, 0, none⟩)), (8, .pointer (some ⟨p_26, 0, none⟩)), (10, .bool true), (11, .pointer (some ⟨p_38, 0, none⟩)), (13, .pointer (some ⟨p_55, 0, none⟩)), (14, .int .i64 ((k : Nat) : Int)), (210, undef)] ∧ k ≤ 5 ∧ SA c a0 a1 (a1 + 1) n0 0 k S1 M1 ∧ g2 = [K.pt p_55 102 [.pointer (some ⟨b_25, 0, none⟩), .int .i64 S1.t, .int .i64 S1.pc, .int .i64 S1.place, .int .i64 S1.slot, .int .u64 S1.now]] ∧ MemAt l2 p_26 q_27 ((lns c).toNat) (c.th.toNat) M1 ∧ K.Sat w0 [g2, g1, gl_30, g_23, l2, m_32, g_8, g_5, g_2, fr] w_) ((fun (k : Nat) (S1 : StaS) (M1 : MemM) => 5 - k) 0 ⟨a0, 0, rePlace c S, a1, 0⟩ M) ?_ ?_
        ·
         exact ⟨0, ⟨a0, 0, rePlace c S, a1, 0⟩, M, g_56, l1, rfl, ⟨by rfl, by rfl, by rfl, by rfl, by rfl, by rfl, by rfl, by rfl, by rfl, by rfl, by rfl, by rfl, by rfl, trivial⟩, (by omega), (SA.start (by omega) (by omega) hra.2.1 hra.2.2), h_57, x_47, hS.pick [0, 1, 2, 3, 4, 5, 6, 7, 8, 9]⟩
        ·
         clear hS
         intro m_58 F_59 w hI
         obtain ⟨k, S1, M1, g2, l2, rfl, sl_60, p_61, hT, x_62, x_63, hS⟩ := hI
         rw [← K.Sl.puts sl_60]; clear sl_60
         have hSg1 := hT.good; have hMg1 := hT.mg
         refine K.s (K.s (K.g (K.q [.int .i64 ((k : Nat) : Int)] ?_)))
         by_cases h_64 : (((k : Nat) : Int) : Int) < (5 : Int)
         ·
          refine K.y ((((k : Nat) : Int) : Int) < (5 : Int)) h_64 ?_
          refine K.z (K.t (K.h (K.k (K.t (K.s ?_)))))
          refine K.KW.block ?_
          refine K.g (K.q [.pointer (some ⟨p_55, 0, none⟩), .pointer (some ⟨p_26, 0, none⟩)] ?_)
          refine K.l (K.OW.gcall hS [0, 2, 4] [1, 3, 5, 6, 7, 8, 9] [.pointer (some ⟨p_55, 0, none⟩), .pointer (some ⟨p_26, 0, none⟩)] (staStep_ok _ _ _ _ _ _ _ c (by first | assumption | (unfold cfgOk; decide)) S1 M1 _ _ _ x_62 hl_33 x_63 (by assumption) (by assumption)) ?_)
          clear hS; rintro _ _ w ⟨g_65, l_66, rfl, rfl, h_67, x_68⟩ hS
          replace hS : K.Sat w0 [g_65, gl_30, l_66, g1, g_23, m_32, g_8, g_5, g_2, fr] w := hS
          obtain ⟨hS_69, hM_70⟩ := (staStep_good (by assumption) (by assumption) : (staStep c ((lns c).toNat) (c.th.toNat) S1 M1).1.good ∧ (staStep c ((lns c).toNat) (c.th.toNat) S1 M1).2.good)
          refine K.z ?_
          refine K.blk_normal ?_
          refine K.t (K.g (K.q [.int .i64 ((k : Nat) : Int)] ?_))
          refine K.a (K.QR.n64 ((((k : Nat) : Int) : Int) + (1 : Int)) ((k + 1 : Nat) : Int) (by kernel_rfl) (by omega)) ?_
          refine K.q [.int .i64 ((k + 1 : Nat) : Int)] (K.z (K.t ?_))
          refine ⟨_, ?_, k + 1, (staStep c ((lns c).toNat) (c.th.toNat) S1 M1).1, ((staStep c ((lns c).toNat) (c.th.toNat) S1 M1).2), g_65, l_66, rfl, ⟨by rfl, by rfl, by rfl, by rfl, by rfl, by rfl, by rfl, by rfl, by rfl, by rfl, by rfl, by rfl, by rfl, trivial⟩, (by omega), (hT.next (by assumption) (by omega)), h_67, x_68, hS.pick [0, 3, 1, 4, 2, 5, 6, 7, 8, 9]⟩
          omega
         ·
          refine K.x ((((k : Nat) : Int) : Int) < (5 : Int)) h_64 ?_
          refine K.z (K.t (K.f ?_))
          refine K.KW.exit ?_
          refine K.thn_exit ?_
          refine K.thn_exit ?_
          refine K.blk_hit ?_
          refine K.t (K.s (K.g (K.q [.pointer (some ⟨b_25, 0, none⟩), .pointer (some ⟨p_26, 0, none⟩)] ?_)))
          refine K.a (K.QR.ixA 0 1 rfl rfl rfl Tryz.underlying24 (by kernel_rfl) (by omega) (by first | rfl | simp)) ?_
          refine K.d (.int .i64 a0) ((hS.blk 7 rfl hg_6).cell rfl) ?_
          refine K.l (K.OW.gcall hS [2, 4] [0, 1, 3, 5, 6, 7, 8, 9] [.pointer (some ⟨b_25, 0, none⟩), .pointer (some ⟨p_26, 0, none⟩), .int .i64 a0] (slots_ok _ _ _ _ _ _ c (by first | assumption | (unfold cfgOk; decide)) M1 _ _ hl_33 x_63 (by assumption) a0 (by omega)) ?_)
          clear hS; rintro _ _ w ⟨r_71, cc_72, l_73, rfl, rfl, o_74⟩ hS
          replace hS : K.Sat w0 [gl_30, l2, l_73, g2, g1, g_23, m_32, g_8, g_5, g_2, fr] w := hS
          have hsa := hT.done (by assumption) (by omega) (by omega) (by omega)
          have hsa5 := hsa.1
          have hstd : (slotsT c ((lns c).toNat) M1 a0 c.lo.toNat) = [a1] := hsa.2.2
          have hstdl : (slotsT c ((lns c).toNat) M1 a0 c.lo.toNat).length = 1 := congrArg List.length hstd
          refine K.q [.slice r_71 ((slotsT c ((lns c).toNat) M1 a0 c.lo.toNat).length) cc_72] (K.z (K.t (K.s (K.g (K.q [.pointer (some ⟨p_26, 0, none⟩)] ?_)))))
          refine K.a (K.QR.ixA 0 1 rfl rfl rfl Tryz.underlying25 (by kernel_rfl) (by omega) (by first | rfl | simp)) ?_
          refine K.d (.int .u8 n0) ((hS.blk 7 rfl hg_9).cell rfl) ?_
          refine K.a (K.QR.nice (v := .int .u64 (IntKind.u64.wrap n0)) (by kernel_rfl) (congrArg (Value.int .u64) (IntWalk.u64_in _ (by omega)))) ?_
          refine K.a (K.QR.ixA 1 1 rfl rfl rfl Tryz.underlying25 (by kernel_rfl) (by omega) (by first | rfl | simp)) ?_
          refine K.d (.int .u8 n1) ((hS.blk 7 rfl hg_9).cell rfl) ?_
          refine K.a (K.QR.nice (v := .int .u64 (IntKind.u64.wrap n1)) (by kernel_rfl) (congrArg (Value.int .u64) (IntWalk.u64_in _ (by omega)))) ?_
          refine K.a (K.QR.nu64 ((n0 : Int) + (n1 : Int)) ((n0 : Int) + (n1 : Int)) (by kernel_rfl) (by omega)) ?_
          refine K.l (K.OW.gcall hS [1] [0, 2, 3, 4, 5, 6, 7, 8, 9, 10] [.pointer (some ⟨p_26, 0, none⟩), .int .i64 0, .int .i64 (-1), .int .u64 ((n0 : Int) + (n1 : Int))] (mStore_ok _ _ _ _ _ _ _ x_63 (0 : Int) ((-1) : Int) (by first | omega | assumption | exact log_int (by assumption) _ _ | exact aft_int (by assumption) _ | exact ann_int (by assumption) _ (by omega)) ((n0 : Int) + (n1 : Int))) ?_)
          clear hS; rintro _ _ w ⟨l_75, rfl, rfl, x_76⟩ hS
          replace hS : K.Sat w0 [l_75, gl_30, l_73, g2, g1, g_23, m_32, g_8, g_5, g_2, fr] w := hS
          have hA3 : AL c a0 (entryI a1 n0) (n0 + n1) 0 ((M1.accS ((lns c).toNat) (0 : Int) ((-1) : Int) ((n0 : Int) + (n1 : Int))).1) := hsa.2.1.pute (by assumption) (by omega) (by unfold isW; omega)
          have hM3 := hA3.good
          generalize (M1.accS ((lns c).toNat) (0 : Int) ((-1) : Int) ((n0 : Int) + (n1 : Int))).1 = M3 at x_76 hA3 hM3
          refine K.z (K.t (K.s (K.g (K.q [.pointer (some ⟨b_25, 0, none⟩)] ?_))))
          refine K.a (K.QR.ixA 0 1 rfl rfl rfl Tryz.underlying24 (by kernel_rfl) (by omega) (by first | rfl | simp)) ?_
          refine K.d (.int .i64 a0) ((hS.blk 8 rfl hg_6).cell rfl) ?_
          refine K.l (K.OW.gcall hS [] [0, 1, 2, 3, 4, 5, 6, 7, 8, 9, 10] [.pointer (some ⟨b_25, 0, none⟩), .int .i64 a0] (newrec_ok _ b_25 a0) ?_)
          clear hS; rintro _ _ w ⟨p_77, g_78, rfl, rfl, h_79⟩ hS
          replace hS : K.Sat w0 [g_78, l_75, gl_30, l_73, g2, g1, g_23, m_32, g_8, g_5, g_2, fr] w := hS
          refine K.q [.pointer (some ⟨p_77, 0, none⟩)] (K.z (K.t (K.s (K.s (K.g (K.q [.int .i64 0] (K.z (K.t ?_))))))))
          refine K.KW.block ?_
          refine K.KW.loop (fun m_ F_ w_ => ∃ (j : Nat) (S2 : RecS) (M2 : MemM) (g3 : K.Cs) (l3 : K.Cs), m_ = 30 - j ∧ K.Sl F_ [(0, .agg #[.int .i64 c.th, .int .i64 c.sl, .int .i64 c.lo, .int .i64 c.bu]), (1, .agg #[.int .i64 a0, .int .i64 a1]), (2, .agg #[.int .u8 n0, .int .u8 n1]), (4, .pointer (some ⟨r_4, 0, none⟩)), (5, .pointer (some ⟨r_7, 0, none⟩)), (6, .bool false), (7, .pointer (some ⟨b_25, 0, none⟩)), (8, .pointer (some ⟨p_26, 0, none⟩)), (10, .bool true), (11, .pointer (some ⟨p_38, 0, none⟩)), (13, .pointer (some ⟨p_55, 0, none⟩)), (15, .slice r_71 ((slotsT c ((lns c).toNat) M1 a0 c.lo.toNat).length) cc_72), (16, .pointer (some ⟨p_77, 0, none⟩)), (17, .int .i64 ((j : Nat) : Int)), (210, undef)] ∧ j ≤ 30 ∧ CA c a0 a1 n0 n1 j S2 M2 ∧ RecEl p_77 b_25 S2 g3 ∧ MemAt l3 p_26 q_27 ((lns c).toNat) (c.th.toNat) M2 ∧ K.Sat w0 [g3, l3, gl_30, l_73, g2, g1, g_23, m_32, g_8, g_5, g_2, fr] w_) ((fun (j : Nat) (S2 : RecS) (M2 : MemM) => 30 - j) 0 ⟨a0, 0, 0, 0, -1, 0, ⟨0, 0, 0, 0⟩⟩ M3) ?_ ?_
          ·
           exact ⟨0, ⟨a0, 0, 0, 0, -1, 0, ⟨0, 0, 0, 0⟩⟩, M3, g_78, l_75, rfl, ⟨by rfl, by rfl, by rfl, by rfl, by rfl, by rfl, by rfl, by rfl, by rfl, by rfl, by rfl, by rfl, by rfl, by rfl, by rfl, trivial⟩, (by omega), (CA.start (by assumption) (by omega) (by omega) hA3), (.inl ⟨by simp, _, h_79⟩), x_76, hS.pick [0, 1, 2, 3, 4, 5, 6, 7, 8, 9, 10, 11]⟩
          ·
           clear hS
           intro m_80 F_81 w hI
           obtain ⟨j, S2, M2, g3, l3, rfl, sl_82, p_83, hC, x_84, x_85, hS⟩ := hI
           rw [← K.Sl.puts sl_82]; clear sl_82
           have hSg2 := hC.good; have hMg2 := hC.mg
           refine K.s (K.s (K.g (K.q [.int .i64 ((j : Nat) : Int)] ?_)))
           by_cases h_86 : (((j : Nat) : Int) : Int) < (30 : Int)
           ·
            refine K.y ((((j : Nat) : Int) : Int) < (30 : Int)) h_86 ?_
            refine K.z (K.t (K.h (K.k (K.t (K.s ?_)))))
            refine K.KW.block ?_
            refine K.g (K.q [.pointer (some ⟨p_77, 0, none⟩), .pointer (some ⟨p_26, 0, none⟩)] ?_)
            refine K.l (K.OW.gcall hS [0, 2, 1] [3, 4, 5, 6, 7, 8, 9, 10, 11] [.pointer (some ⟨p_77, 0, none⟩), .pointer (some ⟨p_26, 0, none⟩)] (recStep_ok _ _ _ _ _ _ _ c (by first | assumption | (unfold cfgOk; decide)) S2 M2 _ _ _ x_84 hl_33 x_85 (by assumption) (by assumption)) ?_)
            clear hS; rintro _ _ w ⟨g_87, l_88, rfl, rfl, h_89, x_90⟩ hS
            replace hS : K.Sat w0 [g_87, gl_30, l_88, l_73, g2, g1, g_23, m_32, g_8, g_5, g_2, fr] w := hS
            obtain ⟨hS_91, hM_92⟩ := (recStep_good (by first | assumption | (unfold cfgOk; decide)) (by assumption) (by assumption) : (recStep c ((lns c).toNat) S2 M2).1.good c ∧ (recStep c ((lns c).toNat) S2 M2).2.good)
            refine K.z ?_
            refine K.blk_normal ?_
            refine K.t (K.g (K.q [.int .i64 ((j : Nat) : Int)] ?_))
            refine K.a (K.QR.n64 ((((j : Nat) : Int) : Int) + (1 : Int)) ((j + 1 : Nat) : Int) (by kernel_rfl) (by omega)) ?_
            refine K.q [.int .i64 ((j + 1 : Nat) : Int)] (K.z (K.t ?_))
            refine ⟨_, ?_, j + 1, (recStep c ((lns c).toNat) S2 M2).1, ((recStep c ((lns c).toNat) S2 M2).2), g_87, l_88, rfl, ⟨by rfl, by rfl, by rfl, by rfl, by rfl, by rfl, by rfl, by rfl, by rfl, by rfl, by rfl, by rfl, by rfl, by rfl, by rfl, trivial⟩, (by omega), (hC.next (by assumption) (by omega) (by omega) (by omega) (by omega) (by omega)), h_89, x_90, hS.pick [0, 2, 1, 3, 4, 5, 6, 7, 8, 9, 10, 11]⟩
            omega
           ·
            refine K.x ((((j : Nat) : Int) : Int) < (30 : Int)) h_86 ?_
            refine K.z (K.t (K.f ?_))
            refine K.KW.exit ?_
            refine K.thn_exit ?_
            refine K.thn_exit ?_
            refine K.blk_hit ?_
            refine K.t (K.s ?_)
            have hca := hC.done (by assumption) (by omega) (by omega) (by omega) (by omega) (by omega)
            have hP := hca.2.1
            have hS5 : S2.pc = 5 := of_decide_eq_true hca.1
            obtain ⟨_, a_93, hg_94⟩ := x_84.resolve_right (fun h => absurd h.1 (by omega))
            refine K.g (K.q [.pointer (some ⟨b_25, 0, none⟩), .pointer (some ⟨p_26, 0, none⟩)] ?_)
            refine K.l (K.OW.gcall hS [2, 1] [0, 3, 4, 5, 6, 7, 8, 9, 10, 11] [.pointer (some ⟨b_25, 0, none⟩), .pointer (some ⟨p_26, 0, none⟩)] (listB_ok _ _ _ _ _ _ c (by first | assumption | (unfold cfgOk; decide)) (by first | omega | decide) M2 _ _ hl_33 x_85 (by assumption) (by assumption) true (hca.2.2.1)) ?_)
            clear hS; rintro _ _ w ⟨r_95, c_96, l_97, rfl, rfl, o_98⟩ hS
            replace hS : K.Sat w0 [gl_30, l3, l_97, g3, l_73, g2, g1, g_23, m_32, g_8, g_5, g_2, fr] w := hS
            refine K.q [.tuple #[.slice r_95 ((listG c ((lns c).toNat) M2).1.length) c_96, .bool true], .slice r_95 ((listG c ((lns c).toNat) M2).1.length) c_96, .bool true, .slice r_95 ((listG c ((lns c).toNat) M2).1.length) c_96, .bool true] (K.z (K.t (K.s (K.s ?_))))
            obtain ⟨b_99, rfl⟩ := o_74.some_ (by have := o_74.le; omega)
            refine K.KW.gdrawn [4] hS (by kernel_rfl) ?_
            clear hS; intro w hS
            refine K.b 0 rfl (.bool true) (hS.pick [4]) ?_
            refine K.b 1 rfl (.bool false) (hS.pick [4]) ?_
            refine K.b 2 rfl (.bool false) (hS.pick [4]) ?_
            refine K.b 3 rfl (.pointer (some ⟨p_38, 0, none⟩)) (hS.pick [4]) ?_
            refine K.DW.l 4 rfl (by kernel_rfl) (by kernel_rfl) (K.OW.gcall hS [6] [0, 1, 2, 3, 4, 5, 7, 8, 9, 10, 11, 12] [.pointer (some ⟨p_38, 0, none⟩)] (reDoneB_ok _ _ _ S _ x_46) ?_)
            clear hS; rintro _ _ w ⟨rfl, rfl⟩ hS
            replace hS : K.Sat w0 [g1, gl_30, l3, l_97, g3, l_73, g2, g_23, m_32, g_8, g_5, g_2, fr] w := hS
            refine ⟨.inl (hS.pick [5]), ?_⟩
            cases hb_101 : S.done
            ·cases (hb_101.symm.trans (show S.done = true from hra.1))
            ·
             refine K.b 5 rfl (.bool false) (hS.pick [5]) ?_
             refine K.b 6 rfl (.bool false) (hS.pick [5]) ?_
             refine K.b 7 rfl (.bool false) (hS.pick [5]) ?_
             refine K.b 8 rfl (.pointer (some ⟨p_38, 0, none⟩)) (hS.pick [5]) ?_
             refine K.DW.l 9 rfl (by kernel_rfl) (by kernel_rfl) (K.OW.gcall hS [0, 1] [2, 3, 4, 5, 6, 7, 8, 9, 10, 11, 12] [.pointer (some ⟨p_38, 0, none⟩)] (rePlace_ok _ _ _ c (by first | assumption | (unfold cfgOk; decide)) S _ _ x_46 hl_33) ?_)
             clear hS; rintro _ _ w ⟨rfl, rfl⟩ hS
             replace hS : K.Sat w0 [g1, gl_30, l3, l_97, g3, l_73, g2, g_23, m_32, g_8, g_5, g_2, fr] w := hS
             refine ⟨.inl (hS.pick [5]), ?_⟩
             refine K.c 10 rfl (K.QR.nice (v := .bool (((rePlace c S) : Int) != (0 : Int))) (by kernel_rfl) (congrArg Value.bool (bne_eq_false_iff_eq.2 (hra.2.1)))) (hS.pick [5]) ?_
             refine K.b 11 rfl (.bool false) (hS.pick [5]) ?_
             refine K.b 12 rfl (.bool false) (hS.pick [5]) ?_
             refine K.b 13 rfl (.pointer (some ⟨p_55, 0, none⟩)) (hS.pick [5]) ?_
             refine K.DW.l 14 rfl (by kernel_rfl) (by kernel_rfl) (K.OW.gcall hS [6] [0, 1, 2, 3, 4, 5, 7, 8, 9, 10, 11, 12] [.pointer (some ⟨p_55, 0, none⟩)] (staDone_ok _ _ _ S1 _ x_62) ?_)
             clear hS; rintro _ _ w ⟨rfl, (⟨rfl, h_102⟩ | ⟨rfl, h_103⟩)⟩ hS
             ·
              replace hS : K.Sat w0 [g2, g1, gl_30, l3, l_97, g3, l_73, g_23, m_32, g_8, g_5, g_2, fr] w := hS
              refine ⟨.inl (hS.pick [6]), ?_⟩
              refine K.b 15 rfl (.bool false) (hS.pick [6]) ?_
              refine K.b 16 rfl (.bool false) (hS.pick [6]) ?_
              refine K.b 17 rfl (.bool false) (hS.pick [6]) ?_
              refine K.b 18 rfl (.pointer (some ⟨p_77, 0, none⟩)) (hS.pick [6]) ?_
              refine K.DW.l 19 rfl (by kernel_rfl) (by kernel_rfl) (K.OW.gcall hS [5] [0, 1, 2, 3, 4, 6, 7, 8, 9, 10, 11, 12] [.pointer (some ⟨p_77, 0, none⟩)] (recDone_ok _ _ _ _ S2 _ hg_94) ?_)
              clear hS; rintro _ _ w ⟨rfl, (⟨rfl, h_104⟩ | ⟨rfl, h_105⟩)⟩ hS
              ·
               replace hS : K.Sat w0 [g3, g2, g1, gl_30, l3, l_97, l_73, g_23, m_32, g_8, g_5, g_2, fr] w := hS
               refine ⟨.inl (hS.pick [6]), ?_⟩
               refine K.b 20 rfl (.bool false) (hS.pick [6]) ?_
               refine K.b 21 rfl (.bool false) (hS.pick [6]) ?_
               refine K.b 22 rfl (.bool false) (hS.pick [6]) ?_
               refine K.b 23 rfl (.bool true) (hS.pick [6]) ?_
               refine K.b 24 rfl (.bool false) (hS.pick [6]) ?_
               refine K.b 25 rfl (.bool false) (hS.pick [6]) ?_
               refine K.b 26 rfl (.bool false) (hS.pick [6]) ?_
               refine K.b 27 rfl (.slice (some ⟨b_99, 0, none⟩) ((slotsT c ((lns c).toNat) M1 a0 c.lo.toNat).length) cc_72) (hS.pick [6]) ?_
               refine K.c 28 rfl (K.QR.len (P := Tryz.prog) rfl rfl Tryz.underlying45) (hS.pick [6]) ?_
               refine K.c 29 rfl (K.QR.nice (v := .bool (((((slotsT c ((lns c).toNat) M1 a0 c.lo.toNat).length : Nat) : Int) : Int) != (1 : Int))) (by kernel_rfl) (congrArg Value.bool (bne_eq_false_iff_eq.2 (by rw [hstd]; rfl)))) (hS.pick [6]) ?_
               refine K.b 30 rfl (.bool false) (hS.pick [6]) ?_
               refine K.b 31 rfl (.bool false) (hS.pick [6]) ?_
               refine K.p 32 rfl (.slice (some ⟨b_99, 0, none⟩) ((slotsT c ((lns c).toNat) M1 a0 c.lo.toNat).length) cc_72) (hS.pick [6]) ?_
               refine K.m 33 rfl (fun w hS => K.QR.ix 0 1 rfl rfl rfl Tryz.underlying45 (by kernel_rfl) (by omega) (by first | (simp; done) | omega | (simp; omega))) (hS.pick [6]) ?_
               refine K.o_ 34 rfl (.int .i64 ((slotsT c ((lns c).toNat) M1 a0 c.lo.toNat).getD 0 0)) (fun w hS => (K.Own.atS (c := cI64) (d := 0) (fun _ => rfl) (hS.ownr 0 rfl o_74) rfl 0 (by omega))) (hS.pick [6]) ?_
               refine K.c 35 rfl (K.QR.ixA 1 1 rfl rfl rfl Tryz.underlying24 (by kernel_rfl) (by omega) (by first | rfl | simp)) (hS.pick [6]) ?_
               refine K.c 36 rfl (K.QR.ld1 (v := .int .i64 a1) rfl rfl (by kernel_rfl) ((hS.blk 10 rfl hg_6).cell rfl)) (hS.pick [6]) ?_
               refine K.c 37 rfl (K.QR.nice (v := .bool (((slotsT c ((lns c).toNat) M1 a0 c.lo.toNat).getD 0 0 : Int) != (a1 : Int))) (by kernel_rfl) (congrArg Value.bool (bne_eq_false_iff_eq.2 (by rw [hstd]; rfl)))) (hS.pick [6]) ?_
               refine K.b 38 rfl (.bool false) (hS.pick [6]) ?_
               refine K.DW.done (by kernel_rfl) ?_
               refine K.t (K.f (K.k (K.t (K.s (K.s (K.g ?_))))))
               refine K.a (K.QR.ixA 1 1 rfl rfl rfl Tryz.underlying25 (by kernel_rfl) (by omega) (by first | rfl | simp)) ?_
               refine K.d (.int .u8 n1) ((hS.blk 9 rfl hg_9).cell rfl) ?_
               by_cases h_106 : (n1 : Int) < (2 : Int)
               ·
                refine K.y ((n1 : Int) < (2 : Int)) h_106 ?_
                refine K.z (K.t (K.h (K.s ?_)))
                have hfl : (listG c ((lns c).toNat) M2).1 = [] := (hca.2.2.2.1 (by omega)).2.1
                have hct := (hca.2.2.2.1 (by omega)).1
                refine K.g ?_
                refine K.l (K.OW.gcall hS [] [0, 1, 2, 3, 4, 5, 6, 7, 8, 9, 10, 11, 12] [] (awake11_ok _) ?_)
                clear hS; rintro _ _ w ⟨rfl, rfl⟩ hS
                replace hS : K.Sat w0 [g3, g2, g1, gl_30, l3, l_97, l_73, g_23, m_32, g_8, g_5, g_2, fr] w := hS
                refine K.q [.bool true, .pointer (some ⟨p_77, 0, none⟩)] ?_
                refine K.l (K.OW.gcall hS [0] [1, 2, 3, 4, 5, 6, 7, 8, 9, 10, 11, 12] [.pointer (some ⟨p_77, 0, none⟩)] (recCount_ok _ _ _ _ ⟨S2.t, S2.pc, S2.now, S2.next, S2.slot, S2.count, S2.push⟩ _ hg_94) ?_)
                clear hS; rintro _ _ w ⟨rfl, rfl⟩ hS
                replace hS : K.Sat w0 [g3, g2, g1, gl_30, l3, l_97, l_73, g_23, m_32, g_8, g_5, g_2, fr] w := hS
                refine K.ye (S2.count : Int) (0 : Int) (hct) ?_
                refine K.q [.bool true, .bool true, .slice r_95 ((listG c ((lns c).toNat) M2).1.length) c_96] ?_
                refine K.a (K.QR.len (P := Tryz.prog) rfl rfl Tryz.underlying45) ?_
                refine K.ye ((((listG c ((lns c).toNat) M2).1.length : Nat) : Int) : Int) (0 : Int) (by rw [hfl]; rfl) ?_
                refine K.q [.bool true, .bool true, .pointer (some ⟨b_25, 0, none⟩), .pointer (some ⟨p_26, 0, none⟩)] ?_
                refine K.a (K.QR.ixA 0 1 rfl rfl rfl Tryz.underlying24 (by kernel_rfl) (by omega) (by first | rfl | simp)) ?_
                refine K.d (.int .i64 a0) ((hS.blk 10 rfl hg_6).cell rfl) ?_
                refine K.l (K.OW.gcall hS [3, 4] [0, 1, 2, 5, 6, 7, 8, 9, 10, 11, 12] [.pointer (some ⟨b_25, 0, none⟩), .pointer (some ⟨p_26, 0, none⟩), .int .i64 a0] (slots_ok _ _ _ _ _ _ c (by first | assumption | (unfold cfgOk; decide)) M2 _ _ hl_33 x_85 (by assumption) a0 (by omega)) ?_)
                clear hS; rintro _ _ w ⟨r_107, cc_108, l_109, rfl, rfl, o_110⟩ hS
                replace hS : K.Sat w0 [gl_30, l3, l_109, g3, g2, g1, l_97, l_73, g_23, m_32, g_8, g_5, g_2, fr] w := hS
                have hse : (slotsT c ((lns c).toNat) M2 a0 c.lo.toNat) = [a1] := (hca.2.2.2.1 (by omega)).2.2
                have hsel : (slotsT c ((lns c).toNat) M2 a0 c.lo.toNat).length = 1 := congrArg List.length hse
                refine K.a (K.QR.len (P := Tryz.prog) rfl rfl Tryz.underlying45) ?_
                refine K.ye ((((slotsT c ((lns c).toNat) M2 a0 c.lo.toNat).length : Nat) : Int) : Int) (1 : Int) (by rw [hse]; rfl) ?_
                refine K.q [.bool true, .bool true] (K.z (K.t (K.r (K.u ?_))))
                refine ⟨.inr rfl, rfl, (.bool true), K.res1 rfl rfl, [], ?_, hS.pick [13]⟩
                exact rfl
               ·
                refine K.x ((n1 : Int) < (2 : Int)) h_106 ?_
                refine K.z (K.t (K.f (K.k (K.t (K.s ?_)))))
                have hfl : (listG c ((lns c).toNat) M2).1 = [a1] := (hca.2.2.2.2 (by omega)).2.1
                have hfll : (listG c ((lns c).toNat) M2).1.length = 1 := congrArg List.length hfl
                have hct := (hca.2.2.2.2 (by omega)).1
                obtain ⟨b_111, rfl⟩ := o_98.some_ (by have := o_98.le; omega)
                refine K.KW.gdrawn [5] hS (by kernel_rfl) ?_
                clear hS; intro w hS
                refine K.DW.l 0 rfl (by kernel_rfl) rfl (K.OW.gcall hS [] [0, 1, 2, 3, 4, 5, 6, 7, 8, 9, 10, 11, 12] [] (awake11_ok _) ?_)
                clear hS; rintro _ _ w ⟨rfl, rfl⟩ hS
                replace hS : K.Sat w0 [g3, g2, g1, gl_30, l3, l_97, l_73, g_23, m_32, g_8, g_5, g_2, fr] w := hS
                refine ⟨.inl (hS.pick [5]), ?_⟩
                refine K.b 1 rfl (.bool true) (hS.pick [5]) ?_
                refine K.b 2 rfl (.pointer (some ⟨p_77, 0, none⟩)) (hS.pick [5]) ?_
                refine K.DW.l 3 rfl (by kernel_rfl) (by kernel_rfl) (K.OW.gcall hS [0] [1, 2, 3, 4, 5, 6, 7, 8, 9, 10, 11, 12] [.pointer (some ⟨p_77, 0, none⟩)] (recCount_ok _ _ _ _ ⟨S2.t, S2.pc, S2.now, S2.next, S2.slot, S2.count, S2.push⟩ _ hg_94) ?_)
                clear hS; rintro _ _ w ⟨rfl, rfl⟩ hS
                replace hS : K.Sat w0 [g3, g2, g1, gl_30, l3, l_97, l_73, g_23, m_32, g_8, g_5, g_2, fr] w := hS
                refine ⟨.inl (hS.pick [5]), ?_⟩
                refine K.c 4 rfl (K.QR.nice (v := .bool ((S2.count : Int) == (1 : Int))) (by kernel_rfl) (congrArg Value.bool (beq_iff_eq.2 (hct)))) (hS.pick [5]) ?_
                refine K.b 5 rfl (.bool true) (hS.pick [5]) ?_
                refine K.b 6 rfl (.bool true) (hS.pick [5]) ?_
                refine K.b 7 rfl (.slice (some ⟨b_111, 0, none⟩) ((listG c ((lns c).toNat) M2).1.length) c_96) (hS.pick [5]) ?_
                refine K.c 8 rfl (K.QR.len (P := Tryz.prog) rfl rfl Tryz.underlying45) (hS.pick [5]) ?_
                refine K.c 9 rfl (K.QR.nice (v := .bool (((((listG c ((lns c).toNat) M2).1.length : Nat) : Int) : Int) == (1 : Int))) (by kernel_rfl) (congrArg Value.bool (beq_iff_eq.2 (by rw [hfl]; rfl)))) (hS.pick [5]) ?_
                refine K.b 10 rfl (.bool true) (hS.pick [5]) ?_
                refine K.b 11 rfl (.bool true) (hS.pick [5]) ?_
                refine K.p 12 rfl (.slice (some ⟨b_111, 0, none⟩) ((listG c ((lns c).toNat) M2).1.length) c_96) (hS.pick [5]) ?_
                refine K.m 13 rfl (fun w hS => K.QR.ix 0 1 rfl rfl rfl Tryz.underlying45 (by kernel_rfl) (by omega) (by first | (simp; done) | omega | (simp; omega))) (hS.pick [5]) ?_
                refine K.o_ 14 rfl (.int .i64 (((listG c ((lns c).toNat) M2).1).getD 0 0)) (fun w hS => (K.Own.atS (c := cI64) (d := 0) (fun _ => rfl) (hS.ownr 0 rfl o_98) rfl 0 (by omega))) (hS.pick [5]) ?_
                refine K.c 15 rfl (K.QR.ixA 1 1 rfl rfl rfl Tryz.underlying24 (by kernel_rfl) (by omega) (by first | rfl | simp)) (hS.pick [5]) ?_
                refine K.c 16 rfl (K.QR.ld1 (v := .int .i64 a1) rfl rfl (by kernel_rfl) ((hS.blk 10 rfl hg_6).cell rfl)) (hS.pick [5]) ?_
                refine K.c 17 rfl (K.QR.nice (v := .bool ((((listG c ((lns c).toNat) M2).1).getD 0 0 : Int) == (a1 : Int))) (by kernel_rfl) (congrArg Value.bool (beq_iff_eq.2 (by rw [hfl]; rfl)))) (hS.pick [5]) ?_
                refine K.b 18 rfl (.bool true) (hS.pick [5]) ?_
                refine K.b 19 rfl (.bool true) (hS.pick [5]) ?_
                refine K.p 20 rfl (.pointer (some ⟨b_25, 0, none⟩)) (hS.pick [5]) ?_
                refine K.p 21 rfl (.pointer (some ⟨p_26, 0, none⟩)) (hS.pick [5]) ?_
                refine K.c 22 rfl (K.QR.ixA 0 1 rfl rfl rfl Tryz.underlying24 (by kernel_rfl) (by omega) (by first | rfl | simp)) (hS.pick [5]) ?_
                refine K.c 23 rfl (K.QR.ld1 (v := .int .i64 a0) rfl rfl (by kernel_rfl) ((hS.blk 10 rfl hg_6).cell rfl)) (hS.pick [5]) ?_
                refine K.DW.l 24 rfl (by kernel_rfl) (by kernel_rfl) (K.OW.gcall hS [3, 4] [0, 1, 2, 5, 6, 7, 8, 9, 10, 11, 12] [.pointer (some ⟨b_25, 0, none⟩), .pointer (some ⟨p_26, 0, none⟩), .int .i64 a0] (slots_ok _ _ _ _ _ _ c (by first | assumption | (unfold cfgOk; decide)) M2 _ _ hl_33 x_85 (by assumption) a0 (by omega)) ?_)
                clear hS; rintro _ _ w ⟨r_113, cc_114, l_115, rfl, rfl, o_116⟩ hS
                replace hS : K.Sat w0 [gl_30, l3, l_115, g3, g2, g1, l_97, l_73, g_23, m_32, g_8, g_5, g_2, fr] w := hS
                have hsf : (slotsT c ((lns c).toNat) M2 a0 c.lo.toNat) = [] := (hca.2.2.2.2 (by omega)).2.2
                have hsfl : (slotsT c ((lns c).toNat) M2 a0 c.lo.toNat).length = 0 := congrArg List.length hsf
                refine ⟨.inl (hS.pick [6]), ?_⟩
                refine K.c 25 rfl (K.QR.len (P := Tryz.prog) rfl rfl Tryz.underlying45) (hS.pick [6]) ?_
                refine K.c 26 rfl (K.QR.nice (v := .bool (((((slotsT c ((lns c).toNat) M2 a0 c.lo.toNat).length : Nat) : Int) : Int) == (0 : Int))) (by kernel_rfl) (congrArg Value.bool (beq_iff_eq.2 (by rw [hsf]; rfl)))) (hS.pick [6]) ?_
                refine K.b 27 rfl (.bool true) (hS.pick [6]) ?_
                refine K.b 28 rfl (.bool true) (hS.pick [6]) ?_
                refine K.DW.done (by kernel_rfl) ?_
                refine K.t (K.r ?_)
                refine ⟨.inr rfl, rfl, (.bool true), K.res1 rfl rfl, [], ?_, hS.pick [13]⟩
                exact rfl
              ·
               exfalso; omega
             ·
              exfalso; omega
 ·
  replace hS : K.Sat w0 [g_8, g_5, g_2, fr] w := hS
  refine K.q [.bool true, .bool true] (K.n_ (K.n_ (K.n_ (K.q [.bool true, .bool true] (K.n_ (K.n_ (K.n_ (K.n_ (K.n_ (K.q [.bool true, .bool true] (K.n_ (K.n_ (K.n_ (K.q [.bool true, .bool true] ?_))))))))))))))
  refine K.n_ (K.n_ (K.n_ (K.n_ (K.n_ (K.q [.bool true] (K.z (K.t (K.h (K.s (K.g ?_))))))))))
  refine K.l (K.OW.gcall hS [] [0, 1, 2, 3] [] (awake11_ok _) ?_)
  clear hS; rintro _ _ w ⟨rfl, rfl⟩ hS
  replace hS : K.Sat w0 [g_8, g_5, g_2, fr] w := hS
  refine K.q [.bool true] (K.z (K.t (K.r (K.u ?_))))
  refine ⟨.inr rfl, rfl, (.bool true), K.res1 rfl rfl, [], ?_, hS.pick [3]⟩
  exact rfl
end Go.Proofs.YtkmndplicmaahaaGreat
