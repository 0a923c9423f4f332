/- The statement EpochSteps. -/
import Derived.Test.YtajkickofkeemaaGreatFr10
import Derived.Test.YtajkickofkeemaaGreatLl10w
import Derived.Test.YtajkickofkeemaaGreatKn
namespace Go.Proofs.YtajkickofkeemaaGreat
open Go.RowKit
set_option linter.unusedVariables false
attribute [local irreducible] K.KW K.RW K.DW K.OW K.QR K.KC
set_option maxHeartbeats 1000000 in
set_option maxRecDepth 100000 in
theorem l10steps_ok (w0 : World) (c : Cfg) (pa : Option Addr) (cp : Nat) (ps : List PutM) (hg : ∀ j, j < ps.length → isInt (ps.getD j pu0).at_ ∧ isW (ps.getD j pu0).w) (hxp : K.RowE w0 pa ps.length 2 (fun i => cPut (ps.getD i pu0))) (k0 tt : Int) (hk0 : isInt k0) (htt : isInt tt) (b : Option Addr) (cap2 : Nat) (ls : List PokeM) (hk : ∀ j, j < ls.length → (ls.getD j pk0).act.good ∧ isW (ls.getD j pk0).act.w) (hl : ls.length ≤ 9223372036854775807) (hy : K.RowE w0 b ls.length 6 (fun i => cPoke (ls.getD i pk0))) :
  K.GC Tryz.prog w0 3 #[.agg #[.int .i64 c.th, .int .i64 c.sl, .int .i64 c.lo, .int .i64 c.bu, .slice pa ps.length cp], .agg #[.int .i64 k0, .int .i64 tt], .slice b ls.length cap2] [] (fun v post => v = .bool true) := by
 refine K.GC.mk (n := 112) Tryz.func3 rfl rfl [.agg #[.int .i64 c.th, .int .i64 c.sl, .int .i64 c.lo, .int .i64 c.bu, .slice pa ps.length cp], .agg #[.int .i64 k0, .int .i64 tt], .slice b ls.length cap2] rfl rfl ?_
 intro fr w hS
 replace hS : K.Sat w0 [fr] w := hS
 refine K.s (K.g ?_)
 refine K.l (K.OW.gnew 26 [.int .i64 c.th, .int .i64 c.sl, .int .i64 c.lo, .int .i64 c.bu, .slice pa ps.length cp] hS ?_)
 clear hS; intro w r_1 g_2 hg_3 hS
 refine K.l (K.OW.gnew 27 [.int .i64 k0, .int .i64 tt] hS ?_)
 clear hS; intro w r_4 g_5 hg_6 hS
 refine K.q [.bool false] (K.z (K.t (K.s (K.g ?_))))
 refine K.a (K.QR.ldN [.int .i64 c.th, .int .i64 c.sl, .int .i64 c.lo, .int .i64 c.bu, .slice pa ps.length cp] rfl rfl (by kernel_rfl) (by kernel_rfl) (K.cells (K.cl ((hS.blk 1 rfl hg_3).cell rfl) (K.cl ((hS.blk 1 rfl hg_3).cell rfl) (K.cl ((hS.blk 1 rfl hg_3).cell rfl) (K.cl ((hS.blk 1 rfl hg_3).cell rfl) (K.cl ((hS.blk 1 rfl hg_3).cell rfl) K.cl0))))))) ?_
 refine K.l (K.OW.gcall hS [53] [0, 1, 2] [.agg #[.int .i64 c.th, .int .i64 c.sl, .int .i64 c.lo, .int .i64 c.bu, .slice pa ps.length cp]] (lay_ok _ c _ _ ps (fun j hj => (hg j hj).1) _ (fun w h => hxp.no h.chg)) ?_)
 clear hS; rintro _ _ w (⟨b_7, p_8, q_9, r_10, u_11, _, _, gl_12, l_13, m_14, rfl, rfl, hl_15, x_16, y_17, rfl, rfl, hf_18, hp_19⟩ | ⟨rfl, rfl, h_20⟩) hS
 ·
  replace hS : K.Sat w0 [gl_12, l_13, m_14, g_5, g_2, fr] w := hS.of (by simp [K.pick, K.nth])
  have hc : cfgOk c := hf_18.1
  obtain ⟨hfa, hfb⟩ : (((1 ≤ c.th ∧ c.th ≤ 64) ∧ (1 ≤ c.sl ∧ c.sl ≤ 65536) ∧ (1 ≤ c.lo ∧ c.lo ≤ 64) ∧ (1 ≤ c.bu ∧ c.bu ≤ 64)) ∧ (c.th ≤ 6 ∧ c.sl ≤ 30 ∧ c.lo ≤ 8 ∧ c.bu ≤ 8)) := (by have h := hf_18; unfold fewC cfgOk at h; exact h)
  have hM : (groundM ((lns c).toNat) (c.th.toNat) (2 + c.th + c.sl).toNat ps).good := ground_good (fun j hj => (hg j hj).2)
  have hP : (((groundM ((lns c).toNat) (c.th.toNat) (2 + c.th + c.sl).toNat ps).pass.length : Nat) : Int) = 2 + c.th + c.sl := by rw [ground_pass]; omega
  refine K.q [.tuple #[.pointer (some ⟨b_7, 0, none⟩), .pointer (some ⟨p_8, 0, none⟩), .pointer (some ⟨r_10, 0, none⟩), .bool true], .pointer (some ⟨b_7, 0, none⟩), .pointer (some ⟨p_8, 0, none⟩), .pointer (some ⟨r_10, 0, none⟩), .bool true, .pointer (some ⟨b_7, 0, none⟩), .pointer (some ⟨p_8, 0, none⟩), .pointer (some ⟨r_10, 0, none⟩), .bool true] (K.z (K.t (K.s (K.s (K.g (K.q [.bool true, .bool false, .bool false, .slice b ls.length cap2] ?_))))))
  refine K.a (K.QR.len (P := Tryz.prog) rfl rfl Tryz.underlying28) ?_
  by_cases h_21 : (((ls.length : Nat) : Int) : Int) > (60 : Int)
  ·
   refine K.y ((((ls.length : Nat) : Int) : Int) > (60 : Int)) h_21 ?_
   refine K.q [.bool true] (K.z (K.t (K.h (K.s (K.g ?_)))))
   refine K.l (K.OW.gcall hS [] [0, 1, 2, 3, 4, 5] [] (awake10_ok _) ?_)
   clear hS; rintro _ _ w ⟨rfl, rfl⟩ hS
   replace hS : K.Sat w0 [gl_12, l_13, m_14, g_5, g_2, fr] w := hS
   refine K.q [.bool true] (K.z (K.t (K.r (K.u ?_))))
   refine ⟨.inr rfl, rfl, (.bool true), K.res1 rfl rfl, [], ?_, hS.pick [5]⟩
   exact rfl
  ·
   refine K.x ((((ls.length : Nat) : Int) : Int) > (60 : Int)) h_21 ?_
   refine K.q [.bool false] (K.z (K.t (K.f (K.k (K.t (K.s (K.g ?_)))))))
   refine K.a (K.QR.ixA 0 1 rfl rfl rfl Tryz.underlying27 (by kernel_rfl) (by omega) (by first | rfl | simp)) ?_
   refine K.d (.int .i64 k0) ((hS.blk 3 rfl hg_6).cell rfl) ?_
   refine K.q [.int .i64 k0] (K.z (K.t (K.s (K.s (K.g (K.q [.int .i64 k0] ?_))))))
   by_cases h_22 : (k0 : Int) = (0 : Int)
   ·
    refine K.xn (k0 : Int) (0 : Int) h_22 ?_
    refine K.q [.bool false] ?_
    refine K.RW.skip rfl (by kernel_rfl) ?_
    refine K.RW.skip rfl (by kernel_rfl) ?_
    refine K.q [.bool false] (K.z (K.t (K.f (K.k (K.t (K.s (K.g (K.q [.pointer (some ⟨b_7, 0, none⟩), .pointer (some ⟨r_1, 0, none⟩)] ?_))))))))
    refine K.a (K.QR.ldN [.int .i64 c.th, .int .i64 c.sl, .int .i64 c.lo, .int .i64 c.bu] rfl rfl (by kernel_rfl) (by kernel_rfl) (K.cells (K.cl ((hS.blk 4 rfl hg_3).cell rfl) (K.cl ((hS.blk 4 rfl hg_3).cell rfl) (K.cl ((hS.blk 4 rfl hg_3).cell rfl) (K.cl ((hS.blk 4 rfl hg_3).cell rfl) K.cl0)))))) ?_
    refine K.a (K.QR.turn (v := .int .i64 k0) (K.QR.k (v := .int .i64 k0) (by kernel_rfl)) (congrArg (Value.int .i64) (show (k0 : Int) = (0 : Int) from h_22))) ?_
    refine K.a (K.QR.ixA 1 1 rfl rfl rfl Tryz.underlying27 (by kernel_rfl) (by omega) (by first | rfl | simp)) ?_
    refine K.d (.int .i64 tt) ((hS.blk 3 rfl hg_6).cell rfl) ?_
    refine K.l (K.OW.gcall hS [] [0, 1, 2, 3, 4, 5] [.pointer (some ⟨b_7, 0, none⟩), .agg #[.int .i64 c.th, .int .i64 c.sl, .int .i64 c.lo, .int .i64 c.bu], .int .i64 0, .int .i64 tt] (made_en _ _ c tt (by omega)) ?_)
    clear hS; rintro _ _ w ⟨u_23, v_24, w_25, r_26, g_27, g2_28, rfl, rfl, h_29, h2_30⟩ hS
    replace hS : K.Sat w0 [g_27, g2_28, gl_12, l_13, m_14, g_5, g_2, fr] w := hS
    have hx_31 : (newE 0 tt).good := newE_good (by omega)
    have hnd_32 := newE_done 0 tt
    replace h2_30 : g2_28 = rmachPt r_26 c (newE 0 tt) := h2_30
    have hn0 := newE_no 0 tt
    refine K.q [.tuple #[.agg #[.pointer u_23, .pointer v_24, .pointer w_25], .pointer (some ⟨r_26, 0, none⟩)], .agg #[.pointer u_23, .pointer v_24, .pointer w_25], .pointer (some ⟨r_26, 0, none⟩)] ?_
    refine K.l (K.OW.gnew 39 [.pointer none, .pointer none, .pointer none] hS ?_)
    clear hS; intro w r_33 g_34 hg_35 hS
    refine K.l (K.OW.gst 0 [.pointer u_23, .pointer v_24, .pointer w_25] [.pointer u_23, .pointer v_24, .pointer w_25] hS hg_35 ?_)
    clear hS; intro w g_36 hg_37 hS
    replace hS : K.Sat w0 [g_36, g_27, g2_28, gl_12, l_13, m_14, g_5, g_2, fr] w := hS
    refine K.q [.pointer (some ⟨r_26, 0, none⟩)] (K.z (K.t (K.s (K.s (K.g (K.q [.int .i64 0] (K.z (K.t ?_))))))))
    refine K.KW.block ?_
    refine K.KW.loop (fun m_ F_ w_ => ∃ (j : Nat) (x : MachE) (M : MemM) (g1 : K.Cs) (h1 : K.Cs) (l1 : K.Cs) (m1 : K.Cs), m_ = ls.length - j ∧ K.Sl F_ [(0, .agg #[.int .i64 c.th, .int .i64 c.sl, .int .i64 c.lo, .int .i64 c.bu, .slice pa ps.length cp]), (1, .agg #[.int .i64 k0, .int .i64 tt]), (2, .slice b ls.length cap2), (8, .pointer (some ⟨p_8, 0, none⟩)), (9, .pointer (some ⟨r_10, 0, none⟩)), (12, .pointer (some ⟨r_33, 0, none⟩)), (13, .pointer (some ⟨r_26, 0, none⟩)), (14, .int .i64 ((j : Nat) : Int)), (112, undef)] ∧ j ≤ ls.length ∧ x.good ∧ x ≠ .no ∧ M.good ∧ MachEl b_7 x u_23 v_24 w_25 g1 ∧ h1 = [K.pt r_26 51 [.int .i64 c.th, .int .i64 c.sl, .int .i64 c.lo, .int .i64 c.bu, .int .i64 (tE x), .int .i64 (kindE x), .int .i64 (lineE x), .int .u64 (nowE x), .bool x.moved]] ∧ MemAt l1 p_8 q_9 ((lns c).toNat) (c.th.toNat) M ∧ RMemAt m1 r_10 u_11 ((lns c).toNat) (c.th.toNat) M ∧ K.Sat w0 [g_36, g1, h1, gl_12, l1, m1, g_5, g_2, fr] w_) ((fun (j : Nat) (x : MachE) (M : MemM) => ls.length - j) 0 (newE 0 tt) (groundM ((lns c).toNat) (c.th.toNat) (2 + c.th + c.sl).toNat ps)) ?_ ?_
    ·
     exact ⟨0, (newE 0 tt), (groundM ((lns c).toNat) (c.th.toNat) (2 + c.th + c.sl).toNat ps), g_27, g2_28, l_13, m_14, rfl, ⟨by rfl, by rfl, by rfl, by rfl, by rfl, by rfl, by rfl, by rfl, by rfl, trivial⟩, (by omega), (by assumption), (hn0), (hM), h_29, h2_30, x_16, y_17, hS.pick [0, 1, 2, 3, 4, 5, 6, 7, 8]⟩
    ·
     clear hS
     intro m_38 F_39 w hI
     obtain ⟨j, x, M, g1, h1, l1, m1, rfl, sl_40, p_41, p_42, p_43, p_44, x_45, x_46, x_47, x_48, hS⟩ := hI
     rw [← K.Sl.puts sl_40]; clear sl_40
     refine K.s (K.s (K.g (K.q [.int .i64 ((j : Nat) : Int), .slice b ls.length cap2] ?_)))
     refine K.a (K.QR.len (P := Tryz.prog) rfl rfl Tryz.underlying28) ?_
     by_cases h_49 : (((j : Nat) : Int) : Int) < (((ls.length : Nat) : Int) : Int)
     ·
      refine K.y ((((j : Nat) : Int) : Int) < (((ls.length : Nat) : Int) : Int)) h_49 ?_
      refine K.z (K.t (K.h (K.k (K.t (K.s ?_)))))
      refine K.KW.block ?_
      refine K.s (K.s ?_)
      obtain ⟨b_50, of_51, rfl, _⟩ := hy.at_ (by omega)
      refine K.g (K.q [.slice (some ⟨b_50, of_51, none⟩) ls.length cap2, .int .i64 ((j : Nat) : Int)] ?_)
      refine K.a (K.QR.ix (of_51 + j * 6) 6 rfl rfl rfl Tryz.underlying28 (by kernel_rfl) (by omega) (by first | (simp; done) | omega | (simp; omega))) ?_
      refine K.q [.pointer (some ⟨b_50, of_51 + j * 6, none⟩)] ?_
      refine K.d (.bool ((ls.getD j pk0).step)) ((hy.no hS.chg).ld j (by omega) 0 _ rfl) ?_
      cases hb_52 : (ls.getD j pk0).step
      ·
       refine K.z (K.t (K.f (K.s (K.g (K.q [.pointer (some ⟨p_8, 0, none⟩), .slice (some ⟨b_50, of_51, none⟩) ls.length cap2, .int .i64 ((j : Nat) : Int)] ?_)))))
       refine K.a (K.QR.ix (of_51 + j * 6) 6 rfl rfl rfl Tryz.underlying28 (by kernel_rfl) (by omega) (by first | (simp; done) | omega | (simp; omega))) ?_
       refine K.q [.pointer (some ⟨b_50, of_51 + j * 6 + 1, none⟩)] ?_
       refine K.a (K.QR.ldN [.int .i64 ((ls.getD j pk0).act.kind), .int .i64 ((ls.getD j pk0).act.thread), .int .i64 ((ls.getD j pk0).act.at_), .int .u64 ((ls.getD j pk0).act.old), .int .u64 ((ls.getD j pk0).act.w)] rfl rfl (by kernel_rfl) (by kernel_rfl) (K.cells (K.cl ((hy.no hS.chg).ld j (by omega) 1 _ rfl) (K.cl ((hy.no hS.chg).ld j (by omega) 2 _ rfl) (K.cl ((hy.no hS.chg).ld j (by omega) 3 _ rfl) (K.cl ((hy.no hS.chg).ld j (by omega) 4 _ rfl) (K.cl ((hy.no hS.chg).ld j (by omega) 5 _ rfl) K.cl0))))))) ?_
       refine K.l (K.OW.gcall hS [4] [0, 1, 2, 3, 5, 6, 7, 8] [.pointer (some ⟨p_8, 0, none⟩), .agg #[.int .i64 ((ls.getD j pk0).act.kind), .int .i64 ((ls.getD j pk0).act.thread), .int .i64 ((ls.getD j pk0).act.at_), .int .u64 ((ls.getD j pk0).act.old), .int .u64 ((ls.getD j pk0).act.w)]] (do7_ok _ _ _ _ _ _ _ x_47 (ls.getD j pk0).act (hk j (by omega)).1) ?_)
       clear hS; rintro _ _ w ⟨l_53, rfl, rfl, x_54⟩ hS
       replace hS : K.Sat w0 [l_53, g_36, g1, h1, gl_12, m1, g_5, g_2, fr] w := hS
       have hM_55 : (act7 M ((lns c).toNat) (c.th.toNat) (ls.getD j pk0).act).good := act7_good (by assumption) (hk j (by omega)).2
       refine K.z (K.t (K.g (K.q [.pointer (some ⟨r_10, 0, none⟩), .slice (some ⟨b_50, of_51, none⟩) ls.length cap2, .int .i64 ((j : Nat) : Int)] ?_)))
       refine K.a (K.QR.ix (of_51 + j * 6) 6 rfl rfl rfl Tryz.underlying28 (by kernel_rfl) (by omega) (by first | (simp; done) | omega | (simp; omega))) ?_
       refine K.q [.pointer (some ⟨b_50, of_51 + j * 6 + 1, none⟩)] ?_
       refine K.a (K.QR.ldN [.int .i64 ((ls.getD j pk0).act.kind), .int .i64 ((ls.getD j pk0).act.thread), .int .i64 ((ls.getD j pk0).act.at_), .int .u64 ((ls.getD j pk0).act.old), .int .u64 ((ls.getD j pk0).act.w)] rfl rfl (by kernel_rfl) (by kernel_rfl) (K.cells (K.cl ((hy.no hS.chg).ld j (by omega) 1 _ rfl) (K.cl ((hy.no hS.chg).ld j (by omega) 2 _ rfl) (K.cl ((hy.no hS.chg).ld j (by omega) 3 _ rfl) (K.cl ((hy.no hS.chg).ld j (by omega) 4 _ rfl) (K.cl ((hy.no hS.chg).ld j (by omega) 5 _ rfl) K.cl0))))))) ?_
       refine K.l (K.OW.gcall hS [5] [0, 1, 2, 3, 4, 6, 7, 8] [.pointer (some ⟨r_10, 0, none⟩), .agg #[.int .i64 ((ls.getD j pk0).act.kind), .int .i64 ((ls.getD j pk0).act.thread), .int .i64 ((ls.getD j pk0).act.at_), .int .u64 ((ls.getD j pk0).act.old), .int .u64 ((ls.getD j pk0).act.w)]] (must7_ok _ _ _ _ _ _ _ x_48 (ls.getD j pk0).act (hk j (by omega)).1) ?_)
       clear hS; rintro _ _ w ⟨l_56, rfl, rfl, x_57⟩ hS
       replace hS : K.Sat w0 [l_56, l_53, g_36, g1, h1, gl_12, g_5, g_2, fr] w := hS
       refine K.z (K.t (K.s ?_))
       cases hb_58 : x.done
       ·
        refine K.KW.gdrawn [2, 4] hS (by kernel_rfl) ?_
        clear hS; intro w hS
        refine K.DW.q 0 (by kernel_rfl) rfl rfl (by kernel_rfl) rfl (fun w hS => K.QR.k (v := .pointer (some ⟨p_8, 0, none⟩)) (by kernel_rfl)) (hS.pick [2, 4]) ?_
        refine K.DW.l 1 rfl (by kernel_rfl) rfl (K.OW.q rfl (K.QR.k (v := .pointer (some ⟨r_10, 0, none⟩)) (by kernel_rfl)) ?_)
        refine ⟨.inl (hS.pick [2, 4]), ?_⟩
        refine K.DW.l 2 rfl (by kernel_rfl) rfl (K.OW.gcall hS [1, 0] [2, 3, 4, 5, 6, 7, 8] [.pointer (some ⟨p_8, 0, none⟩), .pointer (some ⟨r_10, 0, none⟩)] (same7_ok _ _ _ _ _ _ _ _ _ _ x_54 x_57) ?_)
        clear hS; rintro _ _ w ⟨rfl, rfl⟩ hS
        replace hS : K.Sat w0 [l_53, l_56, g_36, g1, h1, gl_12, g_5, g_2, fr] w := hS
        refine ⟨.inl (hS.pick [2, 4]), ?_⟩
        refine K.DW.l 3 rfl (by kernel_rfl) rfl (K.OW.q rfl (K.QR.k (v := .bool false) (by kernel_rfl)) ?_)
        refine ⟨.inl (hS.pick [2, 4]), ?_⟩
        refine K.DW.l 4 rfl (by kernel_rfl) rfl (K.OW.q rfl (K.QR.k (v := .bool false) (by kernel_rfl)) ?_)
        refine ⟨.inl (hS.pick [2, 4]), ?_⟩
        refine K.DW.q 5 (by kernel_rfl) rfl rfl (by kernel_rfl) (by kernel_rfl) (fun w hS => K.QR.ldN [.pointer u_23, .pointer v_24, .pointer w_25] rfl rfl (by kernel_rfl) (by kernel_rfl) (K.cells (K.cl ((hS.blk 0 rfl hg_37).cell rfl) (K.cl ((hS.blk 0 rfl hg_37).cell rfl) (K.cl ((hS.blk 0 rfl hg_37).cell rfl) K.cl0))))) (hS.pick [2, 4]) ?_
        refine K.DW.q 7 (by kernel_rfl) rfl rfl (by kernel_rfl) (by kernel_rfl) (fun w hS => K.QR.k (v := .pointer (some ⟨r_26, 0, none⟩)) (by kernel_rfl)) (hS.pick [2, 4]) ?_
        refine K.DW.q 8 (by kernel_rfl) rfl rfl (by kernel_rfl) (by kernel_rfl) (fun w hS => K.QR.k (v := .pointer (some ⟨r_26, 0, none⟩)) (by kernel_rfl)) (hS.pick [2, 4]) ?_
        refine K.DW.q 9 (by kernel_rfl) rfl rfl (by kernel_rfl) (by kernel_rfl) (fun w hS => K.QR.k (v := .pointer (some ⟨r_26, 6, none⟩)) (by kernel_rfl)) (hS.pick [2, 4]) ?_
        refine K.DW.q 10 (by kernel_rfl) rfl rfl (by kernel_rfl) (by kernel_rfl) (fun w hS => K.QR.ld1 (v := .int .i64 (lineE x)) rfl rfl (by kernel_rfl) ((hS.blk 1 rfl x_46).cell rfl)) (hS.pick [2, 4]) ?_
        refine K.DW.q 11 (by kernel_rfl) rfl rfl (by kernel_rfl) (by kernel_rfl) (fun w hS => K.QR.nice (v := .bool (((lineE x) : Int) == (0 : Int))) (by kernel_rfl) (congrArg Value.bool (beq_eq_false_iff_ne.2 (lineE_f hb_58 (by assumption))))) (hS.pick [2, 4]) ?_
        refine K.DW.l 6 rfl (by kernel_rfl) (by kernel_rfl) (K.OW.gcall hS [3] [0, 1, 2, 4, 5, 6, 7, 8] [.agg #[.pointer u_23, .pointer v_24, .pointer w_25]] (machDone_ok _ _ x _ _ _ _ x_45) ?_)
        clear hS; rintro _ _ w ⟨rfl, rfl⟩ hS
        replace hS : K.Sat w0 [g1, l_53, l_56, g_36, h1, gl_12, g_5, g_2, fr] w := hS
        refine ⟨.inl (hS.pick [3, 4]), ?_⟩
        cases hb_59 : x.done
        ·
         refine K.DW.l 12 rfl (by kernel_rfl) (by kernel_rfl) (K.OW.q rfl (K.QR.k (v := .bool false) (by kernel_rfl)) ?_)
         refine ⟨.inl (hS.pick [3, 4]), ?_⟩
         refine K.DW.l 13 rfl (by kernel_rfl) rfl (K.OW.q rfl (K.QR.k (v := .bool false) (by kernel_rfl)) ?_)
         refine ⟨.inl (hS.pick [3, 4]), ?_⟩
         refine K.DW.l 14 rfl (by kernel_rfl) rfl (K.OW.q rfl (K.QR.k (v := .bool false) (by kernel_rfl)) ?_)
         refine ⟨.inl (hS.pick [3, 4]), ?_⟩
         refine K.DW.q 15 (by kernel_rfl) rfl rfl (by kernel_rfl) (by kernel_rfl) (fun w hS => K.QR.k (v := .pointer (some ⟨r_33, 2, none⟩)) (by kernel_rfl)) (hS.pick [3, 4]) ?_
         refine K.DW.q 16 (by kernel_rfl) rfl rfl (by kernel_rfl) (by kernel_rfl) (fun w hS => K.QR.ld1 (v := .pointer w_25) rfl rfl (by kernel_rfl) ((hS.blk 0 rfl hg_37).cell rfl)) (hS.pick [3, 4]) ?_
         refine K.DW.q 18 (by kernel_rfl) rfl rfl (by kernel_rfl) (by kernel_rfl) (fun w hS => K.QR.k (v := .pointer (some ⟨r_26, 0, none⟩)) (by kernel_rfl)) (hS.pick [3, 4]) ?_
         refine K.DW.q 19 (by kernel_rfl) rfl rfl (by kernel_rfl) (by kernel_rfl) (fun w hS => K.QR.k (v := .pointer (some ⟨r_26, 0, none⟩)) (by kernel_rfl)) (hS.pick [3, 4]) ?_
         refine K.DW.q 20 (by kernel_rfl) rfl rfl (by kernel_rfl) (by kernel_rfl) (fun w hS => K.QR.k (v := .pointer (some ⟨r_26, 8, none⟩)) (by kernel_rfl)) (hS.pick [3, 4]) ?_
         refine K.DW.q 21 (by kernel_rfl) rfl rfl (by kernel_rfl) (by kernel_rfl) (fun w hS => K.QR.ld1 (v := .bool x.moved) rfl rfl (by kernel_rfl) ((hS.blk 1 rfl x_46).cell rfl)) (hS.pick [3, 4]) ?_
         refine K.DW.l 17 rfl (by kernel_rfl) (by kernel_rfl) (K.OW.gcall hS [0] [1, 2, 3, 4, 5, 6, 7, 8] [.pointer w_25] (machMoved_ok _ _ x _ _ _ _ x_45) ?_)
         clear hS; rintro _ _ w ⟨rfl, rfl⟩ hS
         replace hS : K.Sat w0 [g1, l_53, l_56, g_36, h1, gl_12, g_5, g_2, fr] w := hS
         refine ⟨.inl (hS.pick [3, 4]), ?_⟩
         cases hb_60 : x.moved
         ·
          refine K.DW.l 22 rfl (by kernel_rfl) (by kernel_rfl) (K.OW.q rfl (K.QR.k (v := .bool false) (by kernel_rfl)) ?_)
          refine ⟨.inl (hS.pick [3, 4]), ?_⟩
          refine K.DW.l 23 rfl (by kernel_rfl) rfl (K.OW.q rfl (K.QR.k (v := .bool false) (by kernel_rfl)) ?_)
          refine ⟨.inl (hS.pick [3, 4]), ?_⟩
          refine K.DW.done (by kernel_rfl) ?_
          refine K.t (K.f (K.k ?_))
          refine K.blk_normal ?_
          refine K.t (K.g (K.q [.int .i64 ((j : Nat) : Int)] ?_))
          refine K.a (K.QR.n64 ((((j : Nat) : Int) : Int) + (1 : Int)) ((j + 1 : Nat) : Int) (by kernel_rfl) (by omega)) ?_
          refine K.q [.int .i64 ((j + 1 : Nat) : Int)] (K.z (K.t ?_))
          refine ⟨_, ?_, j + 1, x, (act7 M ((lns c).toNat) (c.th.toNat) (ls.getD j pk0).act), g1, h1, l_53, l_56, rfl, ⟨by rfl, by rfl, by rfl, by rfl, by rfl, by rfl, by rfl, by rfl, by rfl, trivial⟩, (by omega), (by assumption), (by assumption), (by assumption), x_45, x_46, x_54, x_57, hS.pick [3, 0, 4, 5, 1, 2, 6, 7, 8]⟩
          omega
         ·
          refine K.DW.l 22 rfl (by kernel_rfl) (by kernel_rfl) (K.OW.q rfl (K.QR.k (v := .bool false) (by kernel_rfl)) ?_)
          refine ⟨.inl (hS.pick [3, 4]), ?_⟩
          refine K.DW.l 23 rfl (by kernel_rfl) rfl (K.OW.q rfl (K.QR.k (v := .bool false) (by kernel_rfl)) ?_)
          refine ⟨.inl (hS.pick [3, 4]), ?_⟩
          refine K.DW.done (by kernel_rfl) ?_
          refine K.t (K.f (K.k ?_))
          refine K.blk_normal ?_
          refine K.t (K.g (K.q [.int .i64 ((j : Nat) : Int)] ?_))
          refine K.a (K.QR.n64 ((((j : Nat) : Int) : Int) + (1 : Int)) ((j + 1 : Nat) : Int) (by kernel_rfl) (by omega)) ?_
          refine K.q [.int .i64 ((j + 1 : Nat) : Int)] (K.z (K.t ?_))
          refine ⟨_, ?_, j + 1, x, (act7 M ((lns c).toNat) (c.th.toNat) (ls.getD j pk0).act), g1, h1, l_53, l_56, rfl, ⟨by rfl, by rfl, by rfl, by rfl, by rfl, by rfl, by rfl, by rfl, by rfl, trivial⟩, (by omega), (by assumption), (by assumption), (by assumption), x_45, x_46, x_54, x_57, hS.pick [3, 0, 4, 5, 1, 2, 6, 7, 8]⟩
          omega
        ·cases (hb_59.symm.trans (show x.done = false from hb_58))
       ·
        refine K.KW.gdrawn [2, 4] hS (by kernel_rfl) ?_
        clear hS; intro w hS
        refine K.DW.q 0 (by kernel_rfl) rfl rfl (by kernel_rfl) rfl (fun w hS => K.QR.k (v := .pointer (some ⟨p_8, 0, none⟩)) (by kernel_rfl)) (hS.pick [2, 4]) ?_
        refine K.DW.l 1 rfl (by kernel_rfl) rfl (K.OW.q rfl (K.QR.k (v := .pointer (some ⟨r_10, 0, none⟩)) (by kernel_rfl)) ?_)
        refine ⟨.inl (hS.pick [2, 4]), ?_⟩
        refine K.DW.l 2 rfl (by kernel_rfl) rfl (K.OW.gcall hS [1, 0] [2, 3, 4, 5, 6, 7, 8] [.pointer (some ⟨p_8, 0, none⟩), .pointer (some ⟨r_10, 0, none⟩)] (same7_ok _ _ _ _ _ _ _ _ _ _ x_54 x_57) ?_)
        clear hS; rintro _ _ w ⟨rfl, rfl⟩ hS
        replace hS : K.Sat w0 [l_53, l_56, g_36, g1, h1, gl_12, g_5, g_2, fr] w := hS
        refine ⟨.inl (hS.pick [2, 4]), ?_⟩
        refine K.DW.l 3 rfl (by kernel_rfl) rfl (K.OW.q rfl (K.QR.k (v := .bool false) (by kernel_rfl)) ?_)
        refine ⟨.inl (hS.pick [2, 4]), ?_⟩
        refine K.DW.l 4 rfl (by kernel_rfl) rfl (K.OW.q rfl (K.QR.k (v := .bool false) (by kernel_rfl)) ?_)
        refine ⟨.inl (hS.pick [2, 4]), ?_⟩
        refine K.DW.q 5 (by kernel_rfl) rfl rfl (by kernel_rfl) (by kernel_rfl) (fun w hS => K.QR.ldN [.pointer u_23, .pointer v_24, .pointer w_25] rfl rfl (by kernel_rfl) (by kernel_rfl) (K.cells (K.cl ((hS.blk 0 rfl hg_37).cell rfl) (K.cl ((hS.blk 0 rfl hg_37).cell rfl) (K.cl ((hS.blk 0 rfl hg_37).cell rfl) K.cl0))))) (hS.pick [2, 4]) ?_
        refine K.DW.q 7 (by kernel_rfl) rfl rfl (by kernel_rfl) (by kernel_rfl) (fun w hS => K.QR.k (v := .pointer (some ⟨r_26, 0, none⟩)) (by kernel_rfl)) (hS.pick [2, 4]) ?_
        refine K.DW.q 8 (by kernel_rfl) rfl rfl (by kernel_rfl) (by kernel_rfl) (fun w hS => K.QR.k (v := .pointer (some ⟨r_26, 0, none⟩)) (by kernel_rfl)) (hS.pick [2, 4]) ?_
        refine K.DW.q 9 (by kernel_rfl) rfl rfl (by kernel_rfl) (by kernel_rfl) (fun w hS => K.QR.k (v := .pointer (some ⟨r_26, 6, none⟩)) (by kernel_rfl)) (hS.pick [2, 4]) ?_
        refine K.DW.q 10 (by kernel_rfl) rfl rfl (by kernel_rfl) (by kernel_rfl) (fun w hS => K.QR.ld1 (v := .int .i64 (lineE x)) rfl rfl (by kernel_rfl) ((hS.blk 1 rfl x_46).cell rfl)) (hS.pick [2, 4]) ?_
        refine K.DW.q 11 (by kernel_rfl) rfl rfl (by kernel_rfl) (by kernel_rfl) (fun w hS => K.QR.nice (v := .bool (((lineE x) : Int) == (0 : Int))) (by kernel_rfl) (congrArg Value.bool (beq_iff_eq.2 (lineE_t hb_58)))) (hS.pick [2, 4]) ?_
        refine K.DW.l 6 rfl (by kernel_rfl) (by kernel_rfl) (K.OW.gcall hS [3] [0, 1, 2, 4, 5, 6, 7, 8] [.agg #[.pointer u_23, .pointer v_24, .pointer w_25]] (machDone_ok _ _ x _ _ _ _ x_45) ?_)
        clear hS; rintro _ _ w ⟨rfl, rfl⟩ hS
        replace hS : K.Sat w0 [g1, l_53, l_56, g_36, h1, gl_12, g_5, g_2, fr] w := hS
        refine ⟨.inl (hS.pick [3, 4]), ?_⟩
        cases hb_61 : x.done
        ·cases (hb_61.symm.trans (show x.done = true from hb_58))
        ·
         refine K.DW.l 12 rfl (by kernel_rfl) (by kernel_rfl) (K.OW.q rfl (K.QR.k (v := .bool false) (by kernel_rfl)) ?_)
         refine ⟨.inl (hS.pick [3, 4]), ?_⟩
         refine K.DW.l 13 rfl (by kernel_rfl) rfl (K.OW.q rfl (K.QR.k (v := .bool false) (by kernel_rfl)) ?_)
         refine ⟨.inl (hS.pick [3, 4]), ?_⟩
         refine K.DW.l 14 rfl (by kernel_rfl) rfl (K.OW.q rfl (K.QR.k (v := .bool false) (by kernel_rfl)) ?_)
         refine ⟨.inl (hS.pick [3, 4]), ?_⟩
         refine K.DW.q 15 (by kernel_rfl) rfl rfl (by kernel_rfl) (by kernel_rfl) (fun w hS => K.QR.k (v := .pointer (some ⟨r_33, 2, none⟩)) (by kernel_rfl)) (hS.pick [3, 4]) ?_
         refine K.DW.q 16 (by kernel_rfl) rfl rfl (by kernel_rfl) (by kernel_rfl) (fun w hS => K.QR.ld1 (v := .pointer w_25) rfl rfl (by kernel_rfl) ((hS.blk 0 rfl hg_37).cell rfl)) (hS.pick [3, 4]) ?_
         refine K.DW.q 18 (by kernel_rfl) rfl rfl (by kernel_rfl) (by kernel_rfl) (fun w hS => K.QR.k (v := .pointer (some ⟨r_26, 0, none⟩)) (by kernel_rfl)) (hS.pick [3, 4]) ?_
         refine K.DW.q 19 (by kernel_rfl) rfl rfl (by kernel_rfl) (by kernel_rfl) (fun w hS => K.QR.k (v := .pointer (some ⟨r_26, 0, none⟩)) (by kernel_rfl)) (hS.pick [3, 4]) ?_
         refine K.DW.q 20 (by kernel_rfl) rfl rfl (by kernel_rfl) (by kernel_rfl) (fun w hS => K.QR.k (v := .pointer (some ⟨r_26, 8, none⟩)) (by kernel_rfl)) (hS.pick [3, 4]) ?_
         refine K.DW.q 21 (by kernel_rfl) rfl rfl (by kernel_rfl) (by kernel_rfl) (fun w hS => K.QR.ld1 (v := .bool x.moved) rfl rfl (by kernel_rfl) ((hS.blk 1 rfl x_46).cell rfl)) (hS.pick [3, 4]) ?_
         refine K.DW.l 17 rfl (by kernel_rfl) (by kernel_rfl) (K.OW.gcall hS [0] [1, 2, 3, 4, 5, 6, 7, 8] [.pointer w_25] (machMoved_ok _ _ x _ _ _ _ x_45) ?_)
         clear hS; rintro _ _ w ⟨rfl, rfl⟩ hS
         replace hS : K.Sat w0 [g1, l_53, l_56, g_36, h1, gl_12, g_5, g_2, fr] w := hS
         refine ⟨.inl (hS.pick [3, 4]), ?_⟩
         cases hb_62 : x.moved
         ·
          refine K.DW.l 22 rfl (by kernel_rfl) (by kernel_rfl) (K.OW.q rfl (K.QR.k (v := .bool false) (by kernel_rfl)) ?_)
          refine ⟨.inl (hS.pick [3, 4]), ?_⟩
          refine K.DW.l 23 rfl (by kernel_rfl) rfl (K.OW.q rfl (K.QR.k (v := .bool false) (by kernel_rfl)) ?_)
          refine ⟨.inl (hS.pick [3, 4]), ?_⟩
          refine K.DW.done (by kernel_rfl) ?_
          refine K.t (K.f (K.k ?_))
          refine K.blk_normal ?_
          refine K.t (K.g (K.q [.int .i64 ((j : Nat) : Int)] ?_))
          refine K.a (K.QR.n64 ((((j : Nat) : Int) : Int) + (1 : Int)) ((j + 1 : Nat) : Int) (by kernel_rfl) (by omega)) ?_
          refine K.q [.int .i64 ((j + 1 : Nat) : Int)] (K.z (K.t ?_))
          refine ⟨_, ?_, j + 1, x, (act7 M ((lns c).toNat) (c.th.toNat) (ls.getD j pk0).act), g1, h1, l_53, l_56, rfl, ⟨by rfl, by rfl, by rfl, by rfl, by rfl, by rfl, by rfl, by rfl, by rfl, trivial⟩, (by omega), (by assumption), (by assumption), (by assumption), x_45, x_46, x_54, x_57, hS.pick [3, 0, 4, 5, 1, 2, 6, 7, 8]⟩
          omega
         ·
          refine K.DW.l 22 rfl (by kernel_rfl) (by kernel_rfl) (K.OW.q rfl (K.QR.k (v := .bool false) (by kernel_rfl)) ?_)
          refine ⟨.inl (hS.pick [3, 4]), ?_⟩
          refine K.DW.l 23 rfl (by kernel_rfl) rfl (K.OW.q rfl (K.QR.k (v := .bool false) (by kernel_rfl)) ?_)
          refine ⟨.inl (hS.pick [3, 4]), ?_⟩
          refine K.DW.done (by kernel_rfl) ?_
          refine K.t (K.f (K.k ?_))
          refine K.blk_normal ?_
          refine K.t (K.g (K.q [.int .i64 ((j : Nat) : Int)] ?_))
          refine K.a (K.QR.n64 ((((j : Nat) : Int) : Int) + (1 : Int)) ((j + 1 : Nat) : Int) (by kernel_rfl) (by omega)) ?_
          refine K.q [.int .i64 ((j + 1 : Nat) : Int)] (K.z (K.t ?_))
          refine ⟨_, ?_, j + 1, x, (act7 M ((lns c).toNat) (c.th.toNat) (ls.getD j pk0).act), g1, h1, l_53, l_56, rfl, ⟨by rfl, by rfl, by rfl, by rfl, by rfl, by rfl, by rfl, by rfl, by rfl, trivial⟩, (by omega), (by assumption), (by assumption), (by assumption), x_45, x_46, x_54, x_57, hS.pick [3, 0, 4, 5, 1, 2, 6, 7, 8]⟩
          omega
      ·
       refine K.z (K.t (K.h (K.s (K.g ?_))))
       refine K.a (K.QR.ldN [.pointer u_23, .pointer v_24, .pointer w_25] rfl rfl (by kernel_rfl) (by kernel_rfl) (K.cells (K.cl ((hS.blk 0 rfl hg_37).cell rfl) (K.cl ((hS.blk 0 rfl hg_37).cell rfl) (K.cl ((hS.blk 0 rfl hg_37).cell rfl) K.cl0))))) ?_
       refine K.q [.pointer (some ⟨p_8, 0, none⟩)] ?_
       refine K.l (K.OW.gcall hS [1, 3, 4] [0, 2, 5, 6, 7, 8] [.agg #[.pointer u_23, .pointer v_24, .pointer w_25], .pointer (some ⟨p_8, 0, none⟩)] (machStep2_ok _ _ _ _ _ _ c (by first | assumption | (unfold cfgOk; decide)) x M _ _ _ _ _ _ x_45 hl_15 x_47 (by assumption) (by assumption) (by assumption)) ?_)
       clear hS; rintro _ _ w ⟨g_63, l_64, rfl, rfl, h_65, x_66⟩ hS
       replace hS : K.Sat w0 [g_63, gl_12, l_64, g_36, h1, m1, g_5, g_2, fr] w := hS
       obtain ⟨hx_67, hM_68⟩ := (stepE_good (by first | assumption | (unfold cfgOk; decide)) (by assumption) (by assumption) : (stepE c ((lns c).toNat) x M).1.good ∧ (stepE c ((lns c).toNat) x M).2.good)
       have hn_69 : (stepE c ((lns c).toNat) x M).1 ≠ MachE.no := stepE_no (by assumption)
       cases hb_70 : (stepE c ((lns c).toNat) x M).1.done
       ·
        refine K.q [.bool false] (K.z (K.t (K.s (K.g (K.q [.pointer (some ⟨r_26, 0, none⟩), .pointer (some ⟨r_10, 0, none⟩)] ?_)))))
        refine K.l (K.OW.gcall hS [4, 5] [0, 1, 2, 3, 6, 7, 8] [.pointer (some ⟨r_26, 0, none⟩), .pointer (some ⟨r_10, 0, none⟩)] (rmachStep_ok _ _ _ _ _ _ c (by first | assumption | (unfold cfgOk; decide)) x M _ _ (by assumption) x_46 x_48 (by assumption) (by assumption)) ?_)
        clear hS; rintro _ _ w ⟨g_71, l_72, rfl, rfl, h_73, x_74⟩ hS
        replace hS : K.Sat w0 [g_71, l_72, g_63, gl_12, l_64, g_36, g_5, g_2, fr] w := hS
        refine K.z (K.t (K.s (K.g (K.q [.bool false, .pointer (some ⟨r_26, 0, none⟩), .pointer (some ⟨r_26, 0, none⟩), .pointer (some ⟨r_26, 6, none⟩)] ?_))))
        refine K.d (.int .i64 (lineE ((stepE c ((lns c).toNat) x M).1))) ((hS.blk 0 rfl h_73).cell rfl) ?_
        refine K.xe ((lineE ((stepE c ((lns c).toNat) x M).1)) : Int) (0 : Int) (lineE_f hb_70 (by assumption)) ?_
        refine K.q [.bool false] (K.z (K.t (K.f (K.k (K.t (K.s ?_))))))
        cases hb_75 : ((stepE c ((lns c).toNat) x M).1).done
        ·
         refine K.KW.gdrawn [0, 5] hS (by kernel_rfl) ?_
         clear hS; intro w hS
         refine K.DW.q 0 (by kernel_rfl) rfl rfl (by kernel_rfl) rfl (fun w hS => K.QR.k (v := .pointer (some ⟨p_8, 0, none⟩)) (by kernel_rfl)) (hS.pick [0, 5]) ?_
         refine K.DW.l 1 rfl (by kernel_rfl) rfl (K.OW.q rfl (K.QR.k (v := .pointer (some ⟨r_10, 0, none⟩)) (by kernel_rfl)) ?_)
         refine ⟨.inl (hS.pick [0, 5]), ?_⟩
         refine K.DW.l 2 rfl (by kernel_rfl) rfl (K.OW.gcall hS [4, 1] [0, 2, 3, 5, 6, 7, 8] [.pointer (some ⟨p_8, 0, none⟩), .pointer (some ⟨r_10, 0, none⟩)] (same7_ok _ _ _ _ _ _ _ _ _ _ x_66 x_74) ?_)
         clear hS; rintro _ _ w ⟨rfl, rfl⟩ hS
         replace hS : K.Sat w0 [l_64, l_72, g_71, g_63, gl_12, g_36, g_5, g_2, fr] w := hS
         refine ⟨.inl (hS.pick [2, 5]), ?_⟩
         refine K.DW.l 3 rfl (by kernel_rfl) rfl (K.OW.q rfl (K.QR.k (v := .bool false) (by kernel_rfl)) ?_)
         refine ⟨.inl (hS.pick [2, 5]), ?_⟩
         refine K.DW.l 4 rfl (by kernel_rfl) rfl (K.OW.q rfl (K.QR.k (v := .bool false) (by kernel_rfl)) ?_)
         refine ⟨.inl (hS.pick [2, 5]), ?_⟩
         refine K.DW.q 5 (by kernel_rfl) rfl rfl (by kernel_rfl) (by kernel_rfl) (fun w hS => K.QR.ldN [.pointer u_23, .pointer v_24, .pointer w_25] rfl rfl (by kernel_rfl) (by kernel_rfl) (K.cells (K.cl ((hS.blk 1 rfl hg_37).cell rfl) (K.cl ((hS.blk 1 rfl hg_37).cell rfl) (K.cl ((hS.blk 1 rfl hg_37).cell rfl) K.cl0))))) (hS.pick [2, 5]) ?_
         refine K.DW.q 7 (by kernel_rfl) rfl rfl (by kernel_rfl) (by kernel_rfl) (fun w hS => K.QR.k (v := .pointer (some ⟨r_26, 0, none⟩)) (by kernel_rfl)) (hS.pick [2, 5]) ?_
         refine K.DW.q 8 (by kernel_rfl) rfl rfl (by kernel_rfl) (by kernel_rfl) (fun w hS => K.QR.k (v := .pointer (some ⟨r_26, 0, none⟩)) (by kernel_rfl)) (hS.pick [2, 5]) ?_
         refine K.DW.q 9 (by kernel_rfl) rfl rfl (by kernel_rfl) (by kernel_rfl) (fun w hS => K.QR.k (v := .pointer (some ⟨r_26, 6, none⟩)) (by kernel_rfl)) (hS.pick [2, 5]) ?_
         refine K.DW.q 10 (by kernel_rfl) rfl rfl (by kernel_rfl) (by kernel_rfl) (fun w hS => K.QR.ld1 (v := .int .i64 (lineE ((stepE c ((lns c).toNat) x M).1))) rfl rfl (by kernel_rfl) ((hS.blk 0 rfl h_73).cell rfl)) (hS.pick [2, 5]) ?_
         refine K.DW.q 11 (by kernel_rfl) rfl rfl (by kernel_rfl) (by kernel_rfl) (fun w hS => K.QR.nice (v := .bool (((lineE ((stepE c ((lns c).toNat) x M).1)) : Int) == (0 : Int))) (by kernel_rfl) (congrArg Value.bool (beq_eq_false_iff_ne.2 (lineE_f hb_75 (by assumption))))) (hS.pick [2, 5]) ?_
         refine K.DW.l 6 rfl (by kernel_rfl) (by kernel_rfl) (K.OW.gcall hS [3] [0, 1, 2, 4, 5, 6, 7, 8] [.agg #[.pointer u_23, .pointer v_24, .pointer w_25]] (machDone_ok _ _ ((stepE c ((lns c).toNat) x M).1) _ _ _ _ h_65) ?_)
         clear hS; rintro _ _ w ⟨rfl, rfl⟩ hS
         replace hS : K.Sat w0 [g_63, l_64, l_72, g_71, gl_12, g_36, g_5, g_2, fr] w := hS
         refine ⟨.inl (hS.pick [3, 5]), ?_⟩
         cases hb_76 : ((stepE c ((lns c).toNat) x M).1).done
         ·
          refine K.DW.l 12 rfl (by kernel_rfl) (by kernel_rfl) (K.OW.q rfl (K.QR.k (v := .bool false) (by kernel_rfl)) ?_)
          refine ⟨.inl (hS.pick [3, 5]), ?_⟩
          refine K.DW.l 13 rfl (by kernel_rfl) rfl (K.OW.q rfl (K.QR.k (v := .bool false) (by kernel_rfl)) ?_)
          refine ⟨.inl (hS.pick [3, 5]), ?_⟩
          refine K.DW.l 14 rfl (by kernel_rfl) rfl (K.OW.q rfl (K.QR.k (v := .bool false) (by kernel_rfl)) ?_)
          refine ⟨.inl (hS.pick [3, 5]), ?_⟩
          refine K.DW.q 15 (by kernel_rfl) rfl rfl (by kernel_rfl) (by kernel_rfl) (fun w hS => K.QR.k (v := .pointer (some ⟨r_33, 2, none⟩)) (by kernel_rfl)) (hS.pick [3, 5]) ?_
          refine K.DW.q 16 (by kernel_rfl) rfl rfl (by kernel_rfl) (by kernel_rfl) (fun w hS => K.QR.ld1 (v := .pointer w_25) rfl rfl (by kernel_rfl) ((hS.blk 1 rfl hg_37).cell rfl)) (hS.pick [3, 5]) ?_
          refine K.DW.q 18 (by kernel_rfl) rfl rfl (by kernel_rfl) (by kernel_rfl) (fun w hS => K.QR.k (v := .pointer (some ⟨r_26, 0, none⟩)) (by kernel_rfl)) (hS.pick [3, 5]) ?_
          refine K.DW.q 19 (by kernel_rfl) rfl rfl (by kernel_rfl) (by kernel_rfl) (fun w hS => K.QR.k (v := .pointer (some ⟨r_26, 0, none⟩)) (by kernel_rfl)) (hS.pick [3, 5]) ?_
          refine K.DW.q 20 (by kernel_rfl) rfl rfl (by kernel_rfl) (by kernel_rfl) (fun w hS => K.QR.k (v := .pointer (some ⟨r_26, 8, none⟩)) (by kernel_rfl)) (hS.pick [3, 5]) ?_
          refine K.DW.q 21 (by kernel_rfl) rfl rfl (by kernel_rfl) (by kernel_rfl) (fun w hS => K.QR.ld1 (v := .bool (((stepE c ((lns c).toNat) x M).1).moved)) rfl rfl (by kernel_rfl) ((hS.blk 0 rfl h_73).cell rfl)) (hS.pick [3, 5]) ?_
          refine K.DW.l 17 rfl (by kernel_rfl) (by kernel_rfl) (K.OW.gcall hS [0] [1, 2, 3, 4, 5, 6, 7, 8] [.pointer w_25] (machMoved_ok _ _ ((stepE c ((lns c).toNat) x M).1) _ _ _ _ h_65) ?_)
          clear hS; rintro _ _ w ⟨rfl, rfl⟩ hS
          replace hS : K.Sat w0 [g_63, l_64, l_72, g_71, gl_12, g_36, g_5, g_2, fr] w := hS
          refine ⟨.inl (hS.pick [3, 5]), ?_⟩
          cases hb_77 : ((stepE c ((lns c).toNat) x M).1).moved
          ·
           refine K.DW.l 22 rfl (by kernel_rfl) (by kernel_rfl) (K.OW.q rfl (K.QR.k (v := .bool false) (by kernel_rfl)) ?_)
           refine ⟨.inl (hS.pick [3, 5]), ?_⟩
           refine K.DW.l 23 rfl (by kernel_rfl) rfl (K.OW.q rfl (K.QR.k (v := .bool false) (by kernel_rfl)) ?_)
           refine ⟨.inl (hS.pick [3, 5]), ?_⟩
           refine K.DW.done (by kernel_rfl) ?_
           refine K.t (K.f (K.k ?_))
           refine K.blk_normal ?_
           refine K.t (K.g (K.q [.int .i64 ((j : Nat) : Int)] ?_))
           refine K.a (K.QR.n64 ((((j : Nat) : Int) : Int) + (1 : Int)) ((j + 1 : Nat) : Int) (by kernel_rfl) (by omega)) ?_
           refine K.q [.int .i64 ((j + 1 : Nat) : Int)] (K.z (K.t ?_))
           refine ⟨_, ?_, j + 1, (stepE c ((lns c).toNat) x M).1, ((stepE c ((lns c).toNat) x M).2), g_63, g_71, l_64, l_72, rfl, ⟨by rfl, by rfl, by rfl, by rfl, by rfl, by rfl, by rfl, by rfl, by rfl, trivial⟩, (by omega), (by assumption), (by assumption), (by assumption), h_65, h_73, x_66, x_74, hS.pick [5, 0, 3, 4, 1, 2, 6, 7, 8]⟩
           omega
          ·
           refine K.DW.l 22 rfl (by kernel_rfl) (by kernel_rfl) (K.OW.q rfl (K.QR.k (v := .bool false) (by kernel_rfl)) ?_)
           refine ⟨.inl (hS.pick [3, 5]), ?_⟩
           refine K.DW.l 23 rfl (by kernel_rfl) rfl (K.OW.q rfl (K.QR.k (v := .bool false) (by kernel_rfl)) ?_)
           refine ⟨.inl (hS.pick [3, 5]), ?_⟩
           refine K.DW.done (by kernel_rfl) ?_
           refine K.t (K.f (K.k ?_))
           refine K.blk_normal ?_
           refine K.t (K.g (K.q [.int .i64 ((j : Nat) : Int)] ?_))
           refine K.a (K.QR.n64 ((((j : Nat) : Int) : Int) + (1 : Int)) ((j + 1 : Nat) : Int) (by kernel_rfl) (by omega)) ?_
           refine K.q [.int .i64 ((j + 1 : Nat) : Int)] (K.z (K.t ?_))
           refine ⟨_, ?_, j + 1, (stepE c ((lns c).toNat) x M).1, ((stepE c ((lns c).toNat) x M).2), g_63, g_71, l_64, l_72, rfl, ⟨by rfl, by rfl, by rfl, by rfl, by rfl, by rfl, by rfl, by rfl, by rfl, trivial⟩, (by omega), (by assumption), (by assumption), (by assumption), h_65, h_73, x_66, x_74, hS.pick [5, 0, 3, 4, 1, 2, 6, 7, 8]⟩
           omega
         ·cases (hb_76.symm.trans (show ((stepE c ((lns c).toNat) x M).1).done = false from hb_75))
        ·
         refine K.KW.gdrawn [0, 5] hS (by kernel_rfl) ?_
         clear hS; intro w hS
         refine K.DW.q 0 (by kernel_rfl) rfl rfl (by kernel_rfl) rfl (fun w hS => K.QR.k (v := .pointer (some ⟨p_8, 0, none⟩)) (by kernel_rfl)) (hS.pick [0, 5]) ?_
         refine K.DW.l 1 rfl (by kernel_rfl) rfl (K.OW.q rfl (K.QR.k (v := .pointer (some ⟨r_10, 0, none⟩)) (by kernel_rfl)) ?_)
         refine ⟨.inl (hS.pick [0, 5]), ?_⟩
         refine K.DW.l 2 rfl (by kernel_rfl) rfl (K.OW.gcall hS [4, 1] [0, 2, 3, 5, 6, 7, 8] [.pointer (some ⟨p_8, 0, none⟩), .pointer (some ⟨r_10, 0, none⟩)] (same7_ok _ _ _ _ _ _ _ _ _ _ x_66 x_74) ?_)
         clear hS; rintro _ _ w ⟨rfl, rfl⟩ hS
         replace hS : K.Sat w0 [l_64, l_72, g_71, g_63, gl_12, g_36, g_5, g_2, fr] w := hS
         refine ⟨.inl (hS.pick [2, 5]), ?_⟩
         refine K.DW.l 3 rfl (by kernel_rfl) rfl (K.OW.q rfl (K.QR.k (v := .bool false) (by kernel_rfl)) ?_)
         refine ⟨.inl (hS.pick [2, 5]), ?_⟩
         refine K.DW.l 4 rfl (by kernel_rfl) rfl (K.OW.q rfl (K.QR.k (v := .bool false) (by kernel_rfl)) ?_)
         refine ⟨.inl (hS.pick [2, 5]), ?_⟩
         refine K.DW.q 5 (by kernel_rfl) rfl rfl (by kernel_rfl) (by kernel_rfl) (fun w hS => K.QR.ldN [.pointer u_23, .pointer v_24, .pointer w_25] rfl rfl (by kernel_rfl) (by kernel_rfl) (K.cells (K.cl ((hS.blk 1 rfl hg_37).cell rfl) (K.cl ((hS.blk 1 rfl hg_37).cell rfl) (K.cl ((hS.blk 1 rfl hg_37).cell rfl) K.cl0))))) (hS.pick [2, 5]) ?_
         refine K.DW.q 7 (by kernel_rfl) rfl rfl (by kernel_rfl) (by kernel_rfl) (fun w hS => K.QR.k (v := .pointer (some ⟨r_26, 0, none⟩)) (by kernel_rfl)) (hS.pick [2, 5]) ?_
         refine K.DW.q 8 (by kernel_rfl) rfl rfl (by kernel_rfl) (by kernel_rfl) (fun w hS => K.QR.k (v := .pointer (some ⟨r_26, 0, none⟩)) (by kernel_rfl)) (hS.pick [2, 5]) ?_
         refine K.DW.q 9 (by kernel_rfl) rfl rfl (by kernel_rfl) (by kernel_rfl) (fun w hS => K.QR.k (v := .pointer (some ⟨r_26, 6, none⟩)) (by kernel_rfl)) (hS.pick [2, 5]) ?_
         refine K.DW.q 10 (by kernel_rfl) rfl rfl (by kernel_rfl) (by kernel_rfl) (fun w hS => K.QR.ld1 (v := .int .i64 (lineE ((stepE c ((lns c).toNat) x M).1))) rfl rfl (by kernel_rfl) ((hS.blk 0 rfl h_73).cell rfl)) (hS.pick [2, 5]) ?_
         refine K.DW.q 11 (by kernel_rfl) rfl rfl (by kernel_rfl) (by kernel_rfl) (fun w hS => K.QR.nice (v := .bool (((lineE ((stepE c ((lns c).toNat) x M).1)) : Int) == (0 : Int))) (by kernel_rfl) (congrArg Value.bool (beq_iff_eq.2 (lineE_t hb_75)))) (hS.pick [2, 5]) ?_
         refine K.DW.l 6 rfl (by kernel_rfl) (by kernel_rfl) (K.OW.gcall hS [3] [0, 1, 2, 4, 5, 6, 7, 8] [.agg #[.pointer u_23, .pointer v_24, .pointer w_25]] (machDone_ok _ _ ((stepE c ((lns c).toNat) x M).1) _ _ _ _ h_65) ?_)
         clear hS; rintro _ _ w ⟨rfl, rfl⟩ hS
         replace hS : K.Sat w0 [g_63, l_64, l_72, g_71, gl_12, g_36, g_5, g_2, fr] w := hS
         refine ⟨.inl (hS.pick [3, 5]), ?_⟩
         cases hb_78 : ((stepE c ((lns c).toNat) x M).1).done
         ·cases (hb_78.symm.trans (show ((stepE c ((lns c).toNat) x M).1).done = true from hb_75))
         ·
          refine K.DW.l 12 rfl (by kernel_rfl) (by kernel_rfl) (K.OW.q rfl (K.QR.k (v := .bool false) (by kernel_rfl)) ?_)
          refine ⟨.inl (hS.pick [3, 5]), ?_⟩
          refine K.DW.l 13 rfl (by kernel_rfl) rfl (K.OW.q rfl (K.QR.k (v := .bool false) (by kernel_rfl)) ?_)
          refine ⟨.inl (hS.pick [3, 5]), ?_⟩
          refine K.DW.l 14 rfl (by kernel_rfl) rfl (K.OW.q rfl (K.QR.k (v := .bool false) (by kernel_rfl)) ?_)
          refine ⟨.inl (hS.pick [3, 5]), ?_⟩
          refine K.DW.q 15 (by kernel_rfl) rfl rfl (by kernel_rfl) (by kernel_rfl) (fun w hS => K.QR.k (v := .pointer (some ⟨r_33, 2, none⟩)) (by kernel_rfl)) (hS.pick [3, 5]) ?_
          refine K.DW.q 16 (by kernel_rfl) rfl rfl (by kernel_rfl) (by kernel_rfl) (fun w hS => K.QR.ld1 (v := .pointer w_25) rfl rfl (by kernel_rfl) ((hS.blk 1 rfl hg_37).cell rfl)) (hS.pick [3, 5]) ?_
          refine K.DW.q 18 (by kernel_rfl) rfl rfl (by kernel_rfl) (by kernel_rfl) (fun w hS => K.QR.k (v := .pointer (some ⟨r_26, 0, none⟩)) (by kernel_rfl)) (hS.pick [3, 5]) ?_
          refine K.DW.q 19 (by kernel_rfl) rfl rfl (by kernel_rfl) (by kernel_rfl) (fun w hS => K.QR.k (v := .pointer (some ⟨r_26, 0, none⟩)) (by kernel_rfl)) (hS.pick [3, 5]) ?_
          refine K.DW.q 20 (by kernel_rfl) rfl rfl (by kernel_rfl) (by kernel_rfl) (fun w hS => K.QR.k (v := .pointer (some ⟨r_26, 8, none⟩)) (by kernel_rfl)) (hS.pick [3, 5]) ?_
          refine K.DW.q 21 (by kernel_rfl) rfl rfl (by kernel_rfl) (by kernel_rfl) (fun w hS => K.QR.ld1 (v := .bool (((stepE c ((lns c).toNat) x M).1).moved)) rfl rfl (by kernel_rfl) ((hS.blk 0 rfl h_73).cell rfl)) (hS.pick [3, 5]) ?_
          refine K.DW.l 17 rfl (by kernel_rfl) (by kernel_rfl) (K.OW.gcall hS [0] [1, 2, 3, 4, 5, 6, 7, 8] [.pointer w_25] (machMoved_ok _ _ ((stepE c ((lns c).toNat) x M).1) _ _ _ _ h_65) ?_)
          clear hS; rintro _ _ w ⟨rfl, rfl⟩ hS
          replace hS : K.Sat w0 [g_63, l_64, l_72, g_71, gl_12, g_36, g_5, g_2, fr] w := hS
          refine ⟨.inl (hS.pick [3, 5]), ?_⟩
          cases hb_79 : ((stepE c ((lns c).toNat) x M).1).moved
          ·
           refine K.DW.l 22 rfl (by kernel_rfl) (by kernel_rfl) (K.OW.q rfl (K.QR.k (v := .bool false) (by kernel_rfl)) ?_)
           refine ⟨.inl (hS.pick [3, 5]), ?_⟩
           refine K.DW.l 23 rfl (by kernel_rfl) rfl (K.OW.q rfl (K.QR.k (v := .bool false) (by kernel_rfl)) ?_)
           refine ⟨.inl (hS.pick [3, 5]), ?_⟩
           refine K.DW.done (by kernel_rfl) ?_
           refine K.t (K.f (K.k ?_))
           refine K.blk_normal ?_
           refine K.t (K.g (K.q [.int .i64 ((j : Nat) : Int)] ?_))
           refine K.a (K.QR.n64 ((((j : Nat) : Int) : Int) + (1 : Int)) ((j + 1 : Nat) : Int) (by kernel_rfl) (by omega)) ?_
           refine K.q [.int .i64 ((j + 1 : Nat) : Int)] (K.z (K.t ?_))
           refine ⟨_, ?_, j + 1, (stepE c ((lns c).toNat) x M).1, ((stepE c ((lns c).toNat) x M).2), g_63, g_71, l_64, l_72, rfl, ⟨by rfl, by rfl, by rfl, by rfl, by rfl, by rfl, by rfl, by rfl, by rfl, trivial⟩, (by omega), (by assumption), (by assumption), (by assumption), h_65, h_73, x_66, x_74, hS.pick [5, 0, 3, 4, 1, 2, 6, 7, 8]⟩
           omega
          ·
           refine K.DW.l 22 rfl (by kernel_rfl) (by kernel_rfl) (K.OW.q rfl (K.QR.k (v := .bool false) (by kernel_rfl)) ?_)
           refine ⟨.inl (hS.pick [3, 5]), ?_⟩
           refine K.DW.l 23 rfl (by kernel_rfl) rfl (K.OW.q rfl (K.QR.k (v := .bool false) (by kernel_rfl)) ?_)
           refine ⟨.inl (hS.pick [3, 5]), ?_⟩
           refine K.DW.done (by kernel_rfl) ?_
           refine K.t (K.f (K.k ?_))
           refine K.blk_normal ?_
           refine K.t (K.g (K.q [.int .i64 ((j : Nat) : Int)] ?_))
           refine K.a (K.QR.n64 ((((j : Nat) : Int) : Int) + (1 : Int)) ((j + 1 : Nat) : Int) (by kernel_rfl) (by omega)) ?_
           refine K.q [.int .i64 ((j + 1 : Nat) : Int)] (K.z (K.t ?_))
           refine ⟨_, ?_, j + 1, (stepE c ((lns c).toNat) x M).1, ((stepE c ((lns c).toNat) x M).2), g_63, g_71, l_64, l_72, rfl, ⟨by rfl, by rfl, by rfl, by rfl, by rfl, by rfl, by rfl, by rfl, by rfl, trivial⟩, (by omega), (by assumption), (by assumption), (by assumption), h_65, h_73, x_66, x_74, hS.pick [5, 0, 3, 4, 1, 2, 6, 7, 8]⟩
           omega
       ·
        refine K.q [.bool true] (K.z (K.t (K.s (K.g (K.q [.pointer (some ⟨r_26, 0, none⟩), .pointer (some ⟨r_10, 0, none⟩)] ?_)))))
        refine K.l (K.OW.gcall hS [4, 5] [0, 1, 2, 3, 6, 7, 8] [.pointer (some ⟨r_26, 0, none⟩), .pointer (some ⟨r_10, 0, none⟩)] (rmachStep_ok _ _ _ _ _ _ c (by first | assumption | (unfold cfgOk; decide)) x M _ _ (by assumption) x_46 x_48 (by assumption) (by assumption)) ?_)
        clear hS; rintro _ _ w ⟨g_80, l_81, rfl, rfl, h_82, x_83⟩ hS
        replace hS : K.Sat w0 [g_80, l_81, g_63, gl_12, l_64, g_36, g_5, g_2, fr] w := hS
        refine K.z (K.t (K.s (K.g (K.q [.bool true, .pointer (some ⟨r_26, 0, none⟩), .pointer (some ⟨r_26, 0, none⟩), .pointer (some ⟨r_26, 6, none⟩)] ?_))))
        refine K.d (.int .i64 (lineE ((stepE c ((lns c).toNat) x M).1))) ((hS.blk 0 rfl h_82).cell rfl) ?_
        refine K.ye ((lineE ((stepE c ((lns c).toNat) x M).1)) : Int) (0 : Int) (lineE_t hb_70) ?_
        refine K.q [.bool false] (K.z (K.t (K.f (K.k (K.t (K.s ?_))))))
        cases hb_84 : ((stepE c ((lns c).toNat) x M).1).done
        ·
         refine K.KW.gdrawn [0, 5] hS (by kernel_rfl) ?_
         clear hS; intro w hS
         refine K.DW.q 0 (by kernel_rfl) rfl rfl (by kernel_rfl) rfl (fun w hS => K.QR.k (v := .pointer (some ⟨p_8, 0, none⟩)) (by kernel_rfl)) (hS.pick [0, 5]) ?_
         refine K.DW.l 1 rfl (by kernel_rfl) rfl (K.OW.q rfl (K.QR.k (v := .pointer (some ⟨r_10, 0, none⟩)) (by kernel_rfl)) ?_)
         refine ⟨.inl (hS.pick [0, 5]), ?_⟩
         refine K.DW.l 2 rfl (by kernel_rfl) rfl (K.OW.gcall hS [4, 1] [0, 2, 3, 5, 6, 7, 8] [.pointer (some ⟨p_8, 0, none⟩), .pointer (some ⟨r_10, 0, none⟩)] (same7_ok _ _ _ _ _ _ _ _ _ _ x_66 x_83) ?_)
         clear hS; rintro _ _ w ⟨rfl, rfl⟩ hS
         replace hS : K.Sat w0 [l_64, l_81, g_80, g_63, gl_12, g_36, g_5, g_2, fr] w := hS
         refine ⟨.inl (hS.pick [2, 5]), ?_⟩
         refine K.DW.l 3 rfl (by kernel_rfl) rfl (K.OW.q rfl (K.QR.k (v := .bool false) (by kernel_rfl)) ?_)
         refine ⟨.inl (hS.pick [2, 5]), ?_⟩
         refine K.DW.l 4 rfl (by kernel_rfl) rfl (K.OW.q rfl (K.QR.k (v := .bool false) (by kernel_rfl)) ?_)
         refine ⟨.inl (hS.pick [2, 5]), ?_⟩
         refine K.DW.q 5 (by kernel_rfl) rfl rfl (by kernel_rfl) (by kernel_rfl) (fun w hS => K.QR.ldN [.pointer u_23, .pointer v_24, .pointer w_25] rfl rfl (by kernel_rfl) (by kernel_rfl) (K.cells (K.cl ((hS.blk 1 rfl hg_37).cell rfl) (K.cl ((hS.blk 1 rfl hg_37).cell rfl) (K.cl ((hS.blk 1 rfl hg_37).cell rfl) K.cl0))))) (hS.pick [2, 5]) ?_
         refine K.DW.q 7 (by kernel_rfl) rfl rfl (by kernel_rfl) (by kernel_rfl) (fun w hS => K.QR.k (v := .pointer (some ⟨r_26, 0, none⟩)) (by kernel_rfl)) (hS.pick [2, 5]) ?_
         refine K.DW.q 8 (by kernel_rfl) rfl rfl (by kernel_rfl) (by kernel_rfl) (fun w hS => K.QR.k (v := .pointer (some ⟨r_26, 0, none⟩)) (by kernel_rfl)) (hS.pick [2, 5]) ?_
         refine K.DW.q 9 (by kernel_rfl) rfl rfl (by kernel_rfl) (by kernel_rfl) (fun w hS => K.QR.k (v := .pointer (some ⟨r_26, 6, none⟩)) (by kernel_rfl)) (hS.pick [2, 5]) ?_
         refine K.DW.q 10 (by kernel_rfl) rfl rfl (by kernel_rfl) (by kernel_rfl) (fun w hS => K.QR.ld1 (v := .int .i64 (lineE ((stepE c ((lns c).toNat) x M).1))) rfl rfl (by kernel_rfl) ((hS.blk 0 rfl h_82).cell rfl)) (hS.pick [2, 5]) ?_
         refine K.DW.q 11 (by kernel_rfl) rfl rfl (by kernel_rfl) (by kernel_rfl) (fun w hS => K.QR.nice (v := .bool (((lineE ((stepE c ((lns c).toNat) x M).1)) : Int) == (0 : Int))) (by kernel_rfl) (congrArg Value.bool (beq_eq_false_iff_ne.2 (lineE_f hb_84 (by assumption))))) (hS.pick [2, 5]) ?_
         refine K.DW.l 6 rfl (by kernel_rfl) (by kernel_rfl) (K.OW.gcall hS [3] [0, 1, 2, 4, 5, 6, 7, 8] [.agg #[.pointer u_23, .pointer v_24, .pointer w_25]] (machDone_ok _ _ ((stepE c ((lns c).toNat) x M).1) _ _ _ _ h_65) ?_)
         clear hS; rintro _ _ w ⟨rfl, rfl⟩ hS
         replace hS : K.Sat w0 [g_63, l_64, l_81, g_80, gl_12, g_36, g_5, g_2, fr] w := hS
         refine ⟨.inl (hS.pick [3, 5]), ?_⟩
         cases hb_85 : ((stepE c ((lns c).toNat) x M).1).done
         ·
          refine K.DW.l 12 rfl (by kernel_rfl) (by kernel_rfl) (K.OW.q rfl (K.QR.k (v := .bool false) (by kernel_rfl)) ?_)
          refine ⟨.inl (hS.pick [3, 5]), ?_⟩
          refine K.DW.l 13 rfl (by kernel_rfl) rfl (K.OW.q rfl (K.QR.k (v := .bool false) (by kernel_rfl)) ?_)
          refine ⟨.inl (hS.pick [3, 5]), ?_⟩
          refine K.DW.l 14 rfl (by kernel_rfl) rfl (K.OW.q rfl (K.QR.k (v := .bool false) (by kernel_rfl)) ?_)
          refine ⟨.inl (hS.pick [3, 5]), ?_⟩
          refine K.DW.q 15 (by kernel_rfl) rfl rfl (by kernel_rfl) (by kernel_rfl) (fun w hS => K.QR.k (v := .pointer (some ⟨r_33, 2, none⟩)) (by kernel_rfl)) (hS.pick [3, 5]) ?_
          refine K.DW.q 16 (by kernel_rfl) rfl rfl (by kernel_rfl) (by kernel_rfl) (fun w hS => K.QR.ld1 (v := .pointer w_25) rfl rfl (by kernel_rfl) ((hS.blk 1 rfl hg_37).cell rfl)) (hS.pick [3, 5]) ?_
          refine K.DW.q 18 (by kernel_rfl) rfl rfl (by kernel_rfl) (by kernel_rfl) (fun w hS => K.QR.k (v := .pointer (some ⟨r_26, 0, none⟩)) (by kernel_rfl)) (hS.pick [3, 5]) ?_
          refine K.DW.q 19 (by kernel_rfl) rfl rfl (by kernel_rfl) (by kernel_rfl) (fun w hS => K.QR.k (v := .pointer (some ⟨r_26, 0, none⟩)) (by kernel_rfl)) (hS.pick [3, 5]) ?_
          refine K.DW.q 20 (by kernel_rfl) rfl rfl (by kernel_rfl) (by kernel_rfl) (fun w hS => K.QR.k (v := .pointer (some ⟨r_26, 8, none⟩)) (by kernel_rfl)) (hS.pick [3, 5]) ?_
          refine K.DW.q 21 (by kernel_rfl) rfl rfl (by kernel_rfl) (by kernel_rfl) (fun w hS => K.QR.ld1 (v := .bool (((stepE c ((lns c).toNat) x M).1).moved)) rfl rfl (by kernel_rfl) ((hS.blk 0 rfl h_82).cell rfl)) (hS.pick [3, 5]) ?_
          refine K.DW.l 17 rfl (by kernel_rfl) (by kernel_rfl) (K.OW.gcall hS [0] [1, 2, 3, 4, 5, 6, 7, 8] [.pointer w_25] (machMoved_ok _ _ ((stepE c ((lns c).toNat) x M).1) _ _ _ _ h_65) ?_)
          clear hS; rintro _ _ w ⟨rfl, rfl⟩ hS
          replace hS : K.Sat w0 [g_63, l_64, l_81, g_80, gl_12, g_36, g_5, g_2, fr] w := hS
          refine ⟨.inl (hS.pick [3, 5]), ?_⟩
          cases hb_86 : ((stepE c ((lns c).toNat) x M).1).moved
          ·
           refine K.DW.l 22 rfl (by kernel_rfl) (by kernel_rfl) (K.OW.q rfl (K.QR.k (v := .bool false) (by kernel_rfl)) ?_)
           refine ⟨.inl (hS.pick [3, 5]), ?_⟩
           refine K.DW.l 23 rfl (by kernel_rfl) rfl (K.OW.q rfl (K.QR.k (v := .bool false) (by kernel_rfl)) ?_)
           refine ⟨.inl (hS.pick [3, 5]), ?_⟩
           refine K.DW.done (by kernel_rfl) ?_
           refine K.t (K.f (K.k ?_))
           refine K.blk_normal ?_
           refine K.t (K.g (K.q [.int .i64 ((j : Nat) : Int)] ?_))
           refine K.a (K.QR.n64 ((((j : Nat) : Int) : Int) + (1 : Int)) ((j + 1 : Nat) : Int) (by kernel_rfl) (by omega)) ?_
           refine K.q [.int .i64 ((j + 1 : Nat) : Int)] (K.z (K.t ?_))
           refine ⟨_, ?_, j + 1, (stepE c ((lns c).toNat) x M).1, ((stepE c ((lns c).toNat) x M).2), g_63, g_80, l_64, l_81, rfl, ⟨by rfl, by rfl, by rfl, by rfl, by rfl, by rfl, by rfl, by rfl, by rfl, trivial⟩, (by omega), (by assumption), (by assumption), (by assumption), h_65, h_82, x_66, x_83, hS.pick [5, 0, 3, 4, 1, 2, 6, 7, 8]⟩
           omega
          ·
           refine K.DW.l 22 rfl (by kernel_rfl) (by kernel_rfl) (K.OW.q rfl (K.QR.k (v := .bool false) (by kernel_rfl)) ?_)
           refine ⟨.inl (hS.pick [3, 5]), ?_⟩
           refine K.DW.l 23 rfl (by kernel_rfl) rfl (K.OW.q rfl (K.QR.k (v := .bool false) (by kernel_rfl)) ?_)
           refine ⟨.inl (hS.pick [3, 5]), ?_⟩
           refine K.DW.done (by kernel_rfl) ?_
           refine K.t (K.f (K.k ?_))
           refine K.blk_normal ?_
           refine K.t (K.g (K.q [.int .i64 ((j : Nat) : Int)] ?_))
           refine K.a (K.QR.n64 ((((j : Nat) : Int) : Int) + (1 : Int)) ((j + 1 : Nat) : Int) (by kernel_rfl) (by omega)) ?_
           refine K.q [.int .i64 ((j + 1 : Nat) : Int)] (K.z (K.t ?_))
           refine ⟨_, ?_, j + 1, (stepE c ((lns c).toNat) x M).1, ((stepE c ((lns c).toNat) x M).2), g_63, g_80, l_64, l_81, rfl, ⟨by rfl, by rfl, by rfl, by rfl, by rfl, by rfl, by rfl, by rfl, by rfl, trivial⟩, (by omega), (by assumption), (by assumption), (by assumption), h_65, h_82, x_66, x_83, hS.pick [5, 0, 3, 4, 1, 2, 6, 7, 8]⟩
           omega
         ·cases (hb_85.symm.trans (show ((stepE c ((lns c).toNat) x M).1).done = false from hb_84))
        ·
         refine K.KW.gdrawn [0, 5] hS (by kernel_rfl) ?_
         clear hS; intro w hS
         refine K.DW.q 0 (by kernel_rfl) rfl rfl (by kernel_rfl) rfl (fun w hS => K.QR.k (v := .pointer (some ⟨p_8, 0, none⟩)) (by kernel_rfl)) (hS.pick [0, 5]) ?_
         refine K.DW.l 1 rfl (by kernel_rfl) rfl (K.OW.q rfl (K.QR.k (v := .pointer (some ⟨r_10, 0, none⟩)) (by kernel_rfl)) ?_)
         refine ⟨.inl (hS.pick [0, 5]), ?_⟩
         refine K.DW.l 2 rfl (by kernel_rfl) rfl (K.OW.gcall hS [4, 1] [0, 2, 3, 5, 6, 7, 8] [.pointer (some ⟨p_8, 0, none⟩), .pointer (some ⟨r_10, 0, none⟩)] (same7_ok _ _ _ _ _ _ _ _ _ _ x_66 x_83) ?_)
         clear hS; rintro _ _ w ⟨rfl, rfl⟩ hS
         replace hS : K.Sat w0 [l_64, l_81, g_80, g_63, gl_12, g_36, g_5, g_2, fr] w := hS
         refine ⟨.inl (hS.pick [2, 5]), ?_⟩
         refine K.DW.l 3 rfl (by kernel_rfl) rfl (K.OW.q rfl (K.QR.k (v := .bool false) (by kernel_rfl)) ?_)
         refine ⟨.inl (hS.pick [2, 5]), ?_⟩
         refine K.DW.l 4 rfl (by kernel_rfl) rfl (K.OW.q rfl (K.QR.k (v := .bool false) (by kernel_rfl)) ?_)
         refine ⟨.inl (hS.pick [2, 5]), ?_⟩
         refine K.DW.q 5 (by kernel_rfl) rfl rfl (by kernel_rfl) (by kernel_rfl) (fun w hS => K.QR.ldN [.pointer u_23, .pointer v_24, .pointer w_25] rfl rfl (by kernel_rfl) (by kernel_rfl) (K.cells (K.cl ((hS.blk 1 rfl hg_37).cell rfl) (K.cl ((hS.blk 1 rfl hg_37).cell rfl) (K.cl ((hS.blk 1 rfl hg_37).cell rfl) K.cl0))))) (hS.pick [2, 5]) ?_
         refine K.DW.q 7 (by kernel_rfl) rfl rfl (by kernel_rfl) (by kernel_rfl) (fun w hS => K.QR.k (v := .pointer (some ⟨r_26, 0, none⟩)) (by kernel_rfl)) (hS.pick [2, 5]) ?_
         refine K.DW.q 8 (by kernel_rfl) rfl rfl (by kernel_rfl) (by kernel_rfl) (fun w hS => K.QR.k (v := .pointer (some ⟨r_26, 0, none⟩)) (by kernel_rfl)) (hS.pick [2, 5]) ?_
         refine K.DW.q 9 (by kernel_rfl) rfl rfl (by kernel_rfl) (by kernel_rfl) (fun w hS => K.QR.k (v := .pointer (some ⟨r_26, 6, none⟩)) (by kernel_rfl)) (hS.pick [2, 5]) ?_
         refine K.DW.q 10 (by kernel_rfl) rfl rfl (by kernel_rfl) (by kernel_rfl) (fun w hS => K.QR.ld1 (v := .int .i64 (lineE ((stepE c ((lns c).toNat) x M).1))) rfl rfl (by kernel_rfl) ((hS.blk 0 rfl h_82).cell rfl)) (hS.pick [2, 5]) ?_
         refine K.DW.q 11 (by kernel_rfl) rfl rfl (by kernel_rfl) (by kernel_rfl) (fun w hS => K.QR.nice (v := .bool (((lineE ((stepE c ((lns c).toNat) x M).1)) : Int) == (0 : Int))) (by kernel_rfl) (congrArg Value.bool (beq_iff_eq.2 (lineE_t hb_84)))) (hS.pick [2, 5]) ?_
         refine K.DW.l 6 rfl (by kernel_rfl) (by kernel_rfl) (K.OW.gcall hS [3] [0, 1, 2, 4, 5, 6, 7, 8] [.agg #[.pointer u_23, .pointer v_24, .pointer w_25]] (machDone_ok _ _ ((stepE c ((lns c).toNat) x M).1) _ _ _ _ h_65) ?_)
         clear hS; rintro _ _ w ⟨rfl, rfl⟩ hS
         replace hS : K.Sat w0 [g_63, l_64, l_81, g_80, gl_12, g_36, g_5, g_2, fr] w := hS
         refine ⟨.inl (hS.pick [3, 5]), ?_⟩
         cases hb_87 : ((stepE c ((lns c).toNat) x M).1).done
         ·cases (hb_87.symm.trans (show ((stepE c ((lns c).toNat) x M).1).done = true from hb_84))
         ·
          refine K.DW.l 12 rfl (by kernel_rfl) (by kernel_rfl) (K.OW.q rfl (K.QR.k (v := .bool false) (by kernel_rfl)) ?_)
          refine ⟨.inl (hS.pick [3, 5]), ?_⟩
          refine K.DW.l 13 rfl (by kernel_rfl) rfl (K.OW.q rfl (K.QR.k (v := .bool false) (by kernel_rfl)) ?_)
          refine ⟨.inl (hS.pick [3, 5]), ?_⟩
          refine K.DW.l 14 rfl (by kernel_rfl) rfl (K.OW.q rfl (K.QR.k (v := .bool false) (by kernel_rfl)) ?_)
          refine ⟨.inl (hS.pick [3, 5]), ?_⟩
          refine K.DW.q 15 (by kernel_rfl) rfl rfl (by kernel_rfl) (by kernel_rfl) (fun w hS => K.QR.k (v := .pointer (some ⟨r_33, 2, none⟩)) (by kernel_rfl)) (hS.pick [3, 5]) ?_
          refine K.DW.q 16 (by kernel_rfl) rfl rfl (by kernel_rfl) (by kernel_rfl) (fun w hS => K.QR.ld1 (v := .pointer w_25) rfl rfl (by kernel_rfl) ((hS.blk 1 rfl hg_37).cell rfl)) (hS.pick [3, 5]) ?_
          refine K.DW.q 18 (by kernel_rfl) rfl rfl (by kernel_rfl) (by kernel_rfl) (fun w hS => K.QR.k (v := .pointer (some ⟨r_26, 0, none⟩)) (by kernel_rfl)) (hS.pick [3, 5]) ?_
          refine K.DW.q 19 (by kernel_rfl) rfl rfl (by kernel_rfl) (by kernel_rfl) (fun w hS => K.QR.k (v := .pointer (some ⟨r_26, 0, none⟩)) (by kernel_rfl)) (hS.pick [3, 5]) ?_
          refine K.DW.q 20 (by kernel_rfl) rfl rfl (by kernel_rfl) (by kernel_rfl) (fun w hS => K.QR.k (v := .pointer (some ⟨r_26, 8, none⟩)) (by kernel_rfl)) (hS.pick [3, 5]) ?_
          refine K.DW.q 21 (by kernel_rfl) rfl rfl (by kernel_rfl) (by kernel_rfl) (fun w hS => K.QR.ld1 (v := .bool (((stepE c ((lns c).toNat) x M).1).moved)) rfl rfl (by kernel_rfl) ((hS.blk 0 rfl h_82).cell rfl)) (hS.pick [3, 5]) ?_
          refine K.DW.l 17 rfl (by kernel_rfl) (by kernel_rfl) (K.OW.gcall hS [0] [1, 2, 3, 4, 5, 6, 7, 8] [.pointer w_25] (machMoved_ok _ _ ((stepE c ((lns c).toNat) x M).1) _ _ _ _ h_65) ?_)
          clear hS; rintro _ _ w ⟨rfl, rfl⟩ hS
          replace hS : K.Sat w0 [g_63, l_64, l_81, g_80, gl_12, g_36, g_5, g_2, fr] w := hS
          refine ⟨.inl (hS.pick [3, 5]), ?_⟩
          cases hb_88 : ((stepE c ((lns c).toNat) x M).1).moved
          ·
           refine K.DW.l 22 rfl (by kernel_rfl) (by kernel_rfl) (K.OW.q rfl (K.QR.k (v := .bool false) (by kernel_rfl)) ?_)
           refine ⟨.inl (hS.pick [3, 5]), ?_⟩
           refine K.DW.l 23 rfl (by kernel_rfl) rfl (K.OW.q rfl (K.QR.k (v := .bool false) (by kernel_rfl)) ?_)
           refine ⟨.inl (hS.pick [3, 5]), ?_⟩
           refine K.DW.done (by kernel_rfl) ?_
           refine K.t (K.f (K.k ?_))
           refine K.blk_normal ?_
           refine K.t (K.g (K.q [.int .i64 ((j : Nat) : Int)] ?_))
           refine K.a (K.QR.n64 ((((j : Nat) : Int) : Int) + (1 : Int)) ((j + 1 : Nat) : Int) (by kernel_rfl) (by omega)) ?_
           refine K.q [.int .i64 ((j + 1 : Nat) : Int)] (K.z (K.t ?_))
           refine ⟨_, ?_, j + 1, (stepE c ((lns c).toNat) x M).1, ((stepE c ((lns c).toNat) x M).2), g_63, g_80, l_64, l_81, rfl, ⟨by rfl, by rfl, by rfl, by rfl, by rfl, by rfl, by rfl, by rfl, by rfl, trivial⟩, (by omega), (by assumption), (by assumption), (by assumption), h_65, h_82, x_66, x_83, hS.pick [5, 0, 3, 4, 1, 2, 6, 7, 8]⟩
           omega
          ·
           refine K.DW.l 22 rfl (by kernel_rfl) (by kernel_rfl) (K.OW.q rfl (K.QR.k (v := .bool false) (by kernel_rfl)) ?_)
           refine ⟨.inl (hS.pick [3, 5]), ?_⟩
           refine K.DW.l 23 rfl (by kernel_rfl) rfl (K.OW.q rfl (K.QR.k (v := .bool false) (by kernel_rfl)) ?_)
           refine ⟨.inl (hS.pick [3, 5]), ?_⟩
           refine K.DW.done (by kernel_rfl) ?_
           refine K.t (K.f (K.k ?_))
           refine K.blk_normal ?_
           refine K.t (K.g (K.q [.int .i64 ((j : Nat) : Int)] ?_))
           refine K.a (K.QR.n64 ((((j : Nat) : Int) : Int) + (1 : Int)) ((j + 1 : Nat) : Int) (by kernel_rfl) (by omega)) ?_
           refine K.q [.int .i64 ((j + 1 : Nat) : Int)] (K.z (K.t ?_))
           refine ⟨_, ?_, j + 1, (stepE c ((lns c).toNat) x M).1, ((stepE c ((lns c).toNat) x M).2), g_63, g_80, l_64, l_81, rfl, ⟨by rfl, by rfl, by rfl, by rfl, by rfl, by rfl, by rfl, by rfl, by rfl, trivial⟩, (by omega), (by assumption), (by assumption), (by assumption), h_65, h_82, x_66, x_83, hS.pick [5, 0, 3, 4, 1, 2, 6, 7, 8]⟩
           omega
     ·
      refine K.x ((((j : Nat) : Int) : Int) < (((ls.length : Nat) : Int) : Int)) h_49 ?_
      refine K.z (K.t (K.f ?_))
      refine K.KW.exit ?_
      refine K.thn_exit ?_
      refine K.thn_exit ?_
      refine K.blk_hit ?_
      refine K.t (K.s (K.g ?_))
      refine K.l (K.OW.gcall hS [] [0, 1, 2, 3, 4, 5, 6, 7, 8] [] (awake10_ok _) ?_)
      clear hS; rintro _ _ w ⟨rfl, rfl⟩ hS
      replace hS : K.Sat w0 [g_36, g1, h1, gl_12, l1, m1, g_5, g_2, fr] w := hS
      refine K.q [.bool true] (K.z (K.t (K.r ?_)))
      refine ⟨.inr rfl, rfl, (.bool true), K.res1 rfl rfl, [], ?_, hS.pick [8]⟩
      exact rfl
   ·
    refine K.yn (k0 : Int) (0 : Int) h_22 ?_
    refine K.q [.bool true, .int .i64 k0] ?_
    by_cases h_89 : (k0 : Int) = (1 : Int)
    ·
     refine K.xn (k0 : Int) (1 : Int) h_89 ?_
     refine K.q [.bool false] (K.z (K.t (K.f (K.k (K.t (K.s (K.g (K.q [.pointer (some ⟨b_7, 0, none⟩), .pointer (some ⟨r_1, 0, none⟩)] ?_))))))))
     refine K.a (K.QR.ldN [.int .i64 c.th, .int .i64 c.sl, .int .i64 c.lo, .int .i64 c.bu] rfl rfl (by kernel_rfl) (by kernel_rfl) (K.cells (K.cl ((hS.blk 4 rfl hg_3).cell rfl) (K.cl ((hS.blk 4 rfl hg_3).cell rfl) (K.cl ((hS.blk 4 rfl hg_3).cell rfl) (K.cl ((hS.blk 4 rfl hg_3).cell rfl) K.cl0)))))) ?_
     refine K.a (K.QR.turn (v := .int .i64 k0) (K.QR.k (v := .int .i64 k0) (by kernel_rfl)) (congrArg (Value.int .i64) (show (k0 : Int) = (1 : Int) from h_89))) ?_
     refine K.a (K.QR.ixA 1 1 rfl rfl rfl Tryz.underlying27 (by kernel_rfl) (by omega) (by first | rfl | simp)) ?_
     refine K.d (.int .i64 tt) ((hS.blk 3 rfl hg_6).cell rfl) ?_
     refine K.l (K.OW.gcall hS [] [0, 1, 2, 3, 4, 5] [.pointer (some ⟨b_7, 0, none⟩), .agg #[.int .i64 c.th, .int .i64 c.sl, .int .i64 c.lo, .int .i64 c.bu], .int .i64 1, .int .i64 tt] (made_le _ _ c tt (by omega)) ?_)
     clear hS; rintro _ _ w ⟨u_90, v_91, w_92, r_93, g_94, g2_95, rfl, rfl, h_96, h2_97⟩ hS
     replace hS : K.Sat w0 [g_94, g2_95, gl_12, l_13, m_14, g_5, g_2, fr] w := hS
     have hx_98 : (newE 1 tt).good := newE_good (by omega)
     have hnd_99 := newE_done 1 tt
     replace h2_97 : g2_95 = rmachPt r_93 c (newE 1 tt) := h2_97
     have hn0 := newE_no 1 tt
     refine K.q [.tuple #[.agg #[.pointer u_90, .pointer v_91, .pointer w_92], .pointer (some ⟨r_93, 0, none⟩)], .agg #[.pointer u_90, .pointer v_91, .pointer w_92], .pointer (some ⟨r_93, 0, none⟩)] ?_
     refine K.l (K.OW.gnew 39 [.pointer none, .pointer none, .pointer none] hS ?_)
     clear hS; intro w r_100 g_101 hg_102 hS
     refine K.l (K.OW.gst 0 [.pointer u_90, .pointer v_91, .pointer w_92] [.pointer u_90, .pointer v_91, .pointer w_92] hS hg_102 ?_)
     clear hS; intro w g_103 hg_104 hS
     replace hS : K.Sat w0 [g_103, g_94, g2_95, gl_12, l_13, m_14, g_5, g_2, fr] w := hS
     refine K.q [.pointer (some ⟨r_93, 0, none⟩)] (K.z (K.t (K.s (K.s (K.g (K.q [.int .i64 0] (K.z (K.t ?_))))))))
     refine K.KW.block ?_
     refine K.KW.loop (fun m_ F_ w_ => ∃ (j : Nat) (x : MachE) (M : MemM) (g1 : K.Cs) (h1 : K.Cs) (l1 : K.Cs) (m1 : K.Cs), m_ = ls.length - j ∧ K.Sl F_ [(0, .agg #[.int .i64 c.th, .int .i64 c.sl, .int .i64 c.lo, .int .i64 c.bu, .slice pa ps.length cp]), (1, .agg #[.int .i64 k0, .int .i64 tt]), (2, .slice b ls.length cap2), (8, .pointer (some ⟨p_8, 0, none⟩)), (9, .pointer (some ⟨r_10, 0, none⟩)), (12, .pointer (some ⟨r_100, 0, none⟩)), (13, .pointer (some ⟨r_93, 0, none⟩)), (14, .int .i64 ((j : Nat) : Int)), (112, undef)] ∧ j ≤ ls.length ∧ x.good ∧ x ≠ .no ∧ M.good ∧ MachEl b_7 x u_90 v_91 w_92 g1 ∧ h1 = [K.pt r_93 51 [.int .i64 c.th, .int .i64 c.sl, .int .i64 c.lo, .int .i64 c.bu, .int .i64 (tE x), .int .i64 (kindE x), .int .i64 (lineE x), .int .u64 (nowE x), .bool x.moved]] ∧ MemAt l1 p_8 q_9 ((lns c).toNat) (c.th.toNat) M ∧ RMemAt m1 r_10 u_11 ((lns c).toNat) (c.th.toNat) M ∧ K.Sat w0 [g_103, g1, h1, gl_12, l1, m1, g_5, g_2, fr] w_) ((fun (j : Nat) (x : MachE) (M : MemM) => ls.length - j) 0 (newE 1 tt) (groundM ((lns c).toNat) (c.th.toNat) (2 + c.th + c.sl).toNat ps)) ?_ ?_
     ·
      exact ⟨0, (newE 1 tt), (groundM ((lns c).toNat) (c.th.toNat) (2 + c.th + c.sl).toNat ps), g_94, g2_95, l_13, m_14, rfl, ⟨by rfl, by rfl, by rfl, by rfl, by rfl, by rfl, by rfl, by rfl, by rfl, trivial⟩, (by omega), (by assumption), (hn0), (hM), h_96, h2_97, x_16, y_17, hS.pick [0, 1, 2, 3, 4, 5, 6, 7, 8]⟩
     ·
      clear hS
      intro m_105 F_106 w hI
      obtain ⟨j, x, M, g1, h1, l1, m1, rfl, sl_107, p_108, p_109, p_110, p_111, x_112, x_113, x_114, x_115, hS⟩ := hI
      rw [← K.Sl.puts sl_107]; clear sl_107
      refine K.s (K.s (K.g (K.q [.int .i64 ((j : Nat) : Int), .slice b ls.length cap2] ?_)))
      refine K.a (K.QR.len (P := Tryz.prog) rfl rfl Tryz.underlying28) ?_
      by_cases h_116 : (((j : Nat) : Int) : Int) < (((ls.length : Nat) : Int) : Int)
      ·
       refine K.y ((((j : Nat) : Int) : Int) < (((ls.length : Nat) : Int) : Int)) h_116 ?_
       refine K.z (K.t (K.h (K.k (K.t (K.s ?_)))))
       refine K.KW.block ?_
       refine K.s (K.s ?_)
       obtain ⟨b_117, of_118, rfl, _⟩ := hy.at_ (by omega)
       refine K.g (K.q [.slice (some ⟨b_117, of_118, none⟩) ls.length cap2, .int .i64 ((j : Nat) : Int)] ?_)
       refine K.a (K.QR.ix (of_118 + j * 6) 6 rfl rfl rfl Tryz.underlying28 (by kernel_rfl) (by omega) (by first | (simp; done) | omega | (simp; omega))) ?_
       refine K.q [.pointer (some ⟨b_117, of_118 + j * 6, none⟩)] ?_
       refine K.d (.bool ((ls.getD j pk0).step)) ((hy.no hS.chg).ld j (by omega) 0 _ rfl) ?_
       cases hb_119 : (ls.getD j pk0).step
       ·
        refine K.z (K.t (K.f (K.s (K.g (K.q [.pointer (some ⟨p_8, 0, none⟩), .slice (some ⟨b_117, of_118, none⟩) ls.length cap2, .int .i64 ((j : Nat) : Int)] ?_)))))
        refine K.a (K.QR.ix (of_118 + j * 6) 6 rfl rfl rfl Tryz.underlying28 (by kernel_rfl) (by omega) (by first | (simp; done) | omega | (simp; omega))) ?_
        refine K.q [.pointer (some ⟨b_117, of_118 + j * 6 + 1, none⟩)] ?_
        refine K.a (K.QR.ldN [.int .i64 ((ls.getD j pk0).act.kind), .int .i64 ((ls.getD j pk0).act.thread), .int .i64 ((ls.getD j pk0).act.at_), .int .u64 ((ls.getD j pk0).act.old), .int .u64 ((ls.getD j pk0).act.w)] rfl rfl (by kernel_rfl) (by kernel_rfl) (K.cells (K.cl ((hy.no hS.chg).ld j (by omega) 1 _ rfl) (K.cl ((hy.no hS.chg).ld j (by omega) 2 _ rfl) (K.cl ((hy.no hS.chg).ld j (by omega) 3 _ rfl) (K.cl ((hy.no hS.chg).ld j (by omega) 4 _ rfl) (K.cl ((hy.no hS.chg).ld j (by omega) 5 _ rfl) K.cl0))))))) ?_
        refine K.l (K.OW.gcall hS [4] [0, 1, 2, 3, 5, 6, 7, 8] [.pointer (some ⟨p_8, 0, none⟩), .agg #[.int .i64 ((ls.getD j pk0).act.kind), .int .i64 ((ls.getD j pk0).act.thread), .int .i64 ((ls.getD j pk0).act.at_), .int .u64 ((ls.getD j pk0).act.old), .int .u64 ((ls.getD j pk0).act.w)]] (do7_ok _ _ _ _ _ _ _ x_114 (ls.getD j pk0).act (hk j (by omega)).1) ?_)
        clear hS; rintro _ _ w ⟨l_120, rfl, rfl, x_121⟩ hS
        replace hS : K.Sat w0 [l_120, g_103, g1, h1, gl_12, m1, g_5, g_2, fr] w := hS
        have hM_122 : (act7 M ((lns c).toNat) (c.th.toNat) (ls.getD j pk0).act).good := act7_good (by assumption) (hk j (by omega)).2
        refine K.z (K.t (K.g (K.q [.pointer (some ⟨r_10, 0, none⟩), .slice (some ⟨b_117, of_118, none⟩) ls.length cap2, .int .i64 ((j : Nat) : Int)] ?_)))
        refine K.a (K.QR.ix (of_118 + j * 6) 6 rfl rfl rfl Tryz.underlying28 (by kernel_rfl) (by omega) (by first | (simp; done) | omega | (simp; omega))) ?_
        refine K.q [.pointer (some ⟨b_117, of_118 + j * 6 + 1, none⟩)] ?_
        refine K.a (K.QR.ldN [.int .i64 ((ls.getD j pk0).act.kind), .int .i64 ((ls.getD j pk0).act.thread), .int .i64 ((ls.getD j pk0).act.at_), .int .u64 ((ls.getD j pk0).act.old), .int .u64 ((ls.getD j pk0).act.w)] rfl rfl (by kernel_rfl) (by kernel_rfl) (K.cells (K.cl ((hy.no hS.chg).ld j (by omega) 1 _ rfl) (K.cl ((hy.no hS.chg).ld j (by omega) 2 _ rfl) (K.cl ((hy.no hS.chg).ld j (by omega) 3 _ rfl) (K.cl ((hy.no hS.chg).ld j (by omega) 4 _ rfl) (K.cl ((hy.no hS.chg).ld j (by omega) 5 _ rfl) K.cl0))))))) ?_
        refine K.l (K.OW.gcall hS [5] [0, 1, 2, 3, 4, 6, 7, 8] [.pointer (some ⟨r_10, 0, none⟩), .agg #[.int .i64 ((ls.getD j pk0).act.kind), .int .i64 ((ls.getD j pk0).act.thread), .int .i64 ((ls.getD j pk0).act.at_), .int .u64 ((ls.getD j pk0).act.old), .int .u64 ((ls.getD j pk0).act.w)]] (must7_ok _ _ _ _ _ _ _ x_115 (ls.getD j pk0).act (hk j (by omega)).1) ?_)
        clear hS; rintro _ _ w ⟨l_123, rfl, rfl, x_124⟩ hS
        replace hS : K.Sat w0 [l_123, l_120, g_103, g1, h1, gl_12, g_5, g_2, fr] w := hS
        refine K.z (K.t (K.s ?_))
        cases hb_125 : x.done
        ·
         refine K.KW.gdrawn [2, 4] hS (by kernel_rfl) ?_
         clear hS; intro w hS
         refine K.DW.q 0 (by kernel_rfl) rfl rfl (by kernel_rfl) rfl (fun w hS => K.QR.k (v := .pointer (some ⟨p_8, 0, none⟩)) (by kernel_rfl)) (hS.pick [2, 4]) ?_
         refine K.DW.l 1 rfl (by kernel_rfl) rfl (K.OW.q rfl (K.QR.k (v := .pointer (some ⟨r_10, 0, none⟩)) (by kernel_rfl)) ?_)
         refine ⟨.inl (hS.pick [2, 4]), ?_⟩
         refine K.DW.l 2 rfl (by kernel_rfl) rfl (K.OW.gcall hS [1, 0] [2, 3, 4, 5, 6, 7, 8] [.pointer (some ⟨p_8, 0, none⟩), .pointer (some ⟨r_10, 0, none⟩)] (same7_ok _ _ _ _ _ _ _ _ _ _ x_121 x_124) ?_)
         clear hS; rintro _ _ w ⟨rfl, rfl⟩ hS
         replace hS : K.Sat w0 [l_120, l_123, g_103, g1, h1, gl_12, g_5, g_2, fr] w := hS
         refine ⟨.inl (hS.pick [2, 4]), ?_⟩
         refine K.DW.l 3 rfl (by kernel_rfl) rfl (K.OW.q rfl (K.QR.k (v := .bool false) (by kernel_rfl)) ?_)
         refine ⟨.inl (hS.pick [2, 4]), ?_⟩
         refine K.DW.l 4 rfl (by kernel_rfl) rfl (K.OW.q rfl (K.QR.k (v := .bool false) (by kernel_rfl)) ?_)
         refine ⟨.inl (hS.pick [2, 4]), ?_⟩
         refine K.DW.q 5 (by kernel_rfl) rfl rfl (by kernel_rfl) (by kernel_rfl) (fun w hS => K.QR.ldN [.pointer u_90, .pointer v_91, .pointer w_92] rfl rfl (by kernel_rfl) (by kernel_rfl) (K.cells (K.cl ((hS.blk 0 rfl hg_104).cell rfl) (K.cl ((hS.blk 0 rfl hg_104).cell rfl) (K.cl ((hS.blk 0 rfl hg_104).cell rfl) K.cl0))))) (hS.pick [2, 4]) ?_
         refine K.DW.q 7 (by kernel_rfl) rfl rfl (by kernel_rfl) (by kernel_rfl) (fun w hS => K.QR.k (v := .pointer (some ⟨r_93, 0, none⟩)) (by kernel_rfl)) (hS.pick [2, 4]) ?_
         refine K.DW.q 8 (by kernel_rfl) rfl rfl (by kernel_rfl) (by kernel_rfl) (fun w hS => K.QR.k (v := .pointer (some ⟨r_93, 0, none⟩)) (by kernel_rfl)) (hS.pick [2, 4]) ?_
         refine K.DW.q 9 (by kernel_rfl) rfl rfl (by kernel_rfl) (by kernel_rfl) (fun w hS => K.QR.k (v := .pointer (some ⟨r_93, 6, none⟩)) (by kernel_rfl)) (hS.pick [2, 4]) ?_
         refine K.DW.q 10 (by kernel_rfl) rfl rfl (by kernel_rfl) (by kernel_rfl) (fun w hS => K.QR.ld1 (v := .int .i64 (lineE x)) rfl rfl (by kernel_rfl) ((hS.blk 1 rfl x_113).cell rfl)) (hS.pick [2, 4]) ?_
         refine K.DW.q 11 (by kernel_rfl) rfl rfl (by kernel_rfl) (by kernel_rfl) (fun w hS => K.QR.nice (v := .bool (((lineE x) : Int) == (0 : Int))) (by kernel_rfl) (congrArg Value.bool (beq_eq_false_iff_ne.2 (lineE_f hb_125 (by assumption))))) (hS.pick [2, 4]) ?_
         refine K.DW.l 6 rfl (by kernel_rfl) (by kernel_rfl) (K.OW.gcall hS [3] [0, 1, 2, 4, 5, 6, 7, 8] [.agg #[.pointer u_90, .pointer v_91, .pointer w_92]] (machDone_ok _ _ x _ _ _ _ x_112) ?_)
         clear hS; rintro _ _ w ⟨rfl, rfl⟩ hS
         replace hS : K.Sat w0 [g1, l_120, l_123, g_103, h1, gl_12, g_5, g_2, fr] w := hS
         refine ⟨.inl (hS.pick [3, 4]), ?_⟩
         cases hb_126 : x.done
         ·
          refine K.DW.l 12 rfl (by kernel_rfl) (by kernel_rfl) (K.OW.q rfl (K.QR.k (v := .bool false) (by kernel_rfl)) ?_)
          refine ⟨.inl (hS.pick [3, 4]), ?_⟩
          refine K.DW.l 13 rfl (by kernel_rfl) rfl (K.OW.q rfl (K.QR.k (v := .bool false) (by kernel_rfl)) ?_)
          refine ⟨.inl (hS.pick [3, 4]), ?_⟩
          refine K.DW.l 14 rfl (by kernel_rfl) rfl (K.OW.q rfl (K.QR.k (v := .bool false) (by kernel_rfl)) ?_)
          refine ⟨.inl (hS.pick [3, 4]), ?_⟩
          refine K.DW.q 15 (by kernel_rfl) rfl rfl (by kernel_rfl) (by kernel_rfl) (fun w hS => K.QR.k (v := .pointer (some ⟨r_100, 2, none⟩)) (by kernel_rfl)) (hS.pick [3, 4]) ?_
          refine K.DW.q 16 (by kernel_rfl) rfl rfl (by kernel_rfl) (by kernel_rfl) (fun w hS => K.QR.ld1 (v := .pointer w_92) rfl rfl (by kernel_rfl) ((hS.blk 0 rfl hg_104).cell rfl)) (hS.pick [3, 4]) ?_
          refine K.DW.q 18 (by kernel_rfl) rfl rfl (by kernel_rfl) (by kernel_rfl) (fun w hS => K.QR.k (v := .pointer (some ⟨r_93, 0, none⟩)) (by kernel_rfl)) (hS.pick [3, 4]) ?_
          refine K.DW.q 19 (by kernel_rfl) rfl rfl (by kernel_rfl) (by kernel_rfl) (fun w hS => K.QR.k (v := .pointer (some ⟨r_93, 0, none⟩)) (by kernel_rfl)) (hS.pick [3, 4]) ?_
          refine K.DW.q 20 (by kernel_rfl) rfl rfl (by kernel_rfl) (by kernel_rfl) (fun w hS => K.QR.k (v := .pointer (some ⟨r_93, 8, none⟩)) (by kernel_rfl)) (hS.pick [3, 4]) ?_
          refine K.DW.q 21 (by kernel_rfl) rfl rfl (by kernel_rfl) (by kernel_rfl) (fun w hS => K.QR.ld1 (v := .bool x.moved) rfl rfl (by kernel_rfl) ((hS.blk 1 rfl x_113).cell rfl)) (hS.pick [3, 4]) ?_
          refine K.DW.l 17 rfl (by kernel_rfl) (by kernel_rfl) (K.OW.gcall hS [0] [1, 2, 3, 4, 5, 6, 7, 8] [.pointer w_92] (machMoved_ok _ _ x _ _ _ _ x_112) ?_)
          clear hS; rintro _ _ w ⟨rfl, rfl⟩ hS
          replace hS : K.Sat w0 [g1, l_120, l_123, g_103, h1, gl_12, g_5, g_2, fr] w := hS
          refine ⟨.inl (hS.pick [3, 4]), ?_⟩
          cases hb_127 : x.moved
          ·
           refine K.DW.l 22 rfl (by kernel_rfl) (by kernel_rfl) (K.OW.q rfl (K.QR.k (v := .bool false) (by kernel_rfl)) ?_)
           refine ⟨.inl (hS.pick [3, 4]), ?_⟩
           refine K.DW.l 23 rfl (by kernel_rfl) rfl (K.OW.q rfl (K.QR.k (v := .bool false) (by kernel_rfl)) ?_)
           refine ⟨.inl (hS.pick [3, 4]), ?_⟩
           refine K.DW.done (by kernel_rfl) ?_
           refine K.t (K.f (K.k ?_))
           refine K.blk_normal ?_
           refine K.t (K.g (K.q [.int .i64 ((j : Nat) : Int)] ?_))
           refine K.a (K.QR.n64 ((((j : Nat) : Int) : Int) + (1 : Int)) ((j + 1 : Nat) : Int) (by kernel_rfl) (by omega)) ?_
           refine K.q [.int .i64 ((j + 1 : Nat) : Int)] (K.z (K.t ?_))
           refine ⟨_, ?_, j + 1, x, (act7 M ((lns c).toNat) (c.th.toNat) (ls.getD j pk0).act), g1, h1, l_120, l_123, rfl, ⟨by rfl, by rfl, by rfl, by rfl, by rfl, by rfl, by rfl, by rfl, by rfl, trivial⟩, (by omega), (by assumption), (by assumption), (by assumption), x_112, x_113, x_121, x_124, hS.pick [3, 0, 4, 5, 1, 2, 6, 7, 8]⟩
           omega
          ·
           refine K.DW.l 22 rfl (by kernel_rfl) (by kernel_rfl) (K.OW.q rfl (K.QR.k (v := .bool false) (by kernel_rfl)) ?_)
           refine ⟨.inl (hS.pick [3, 4]), ?_⟩
           refine K.DW.l 23 rfl (by kernel_rfl) rfl (K.OW.q rfl (K.QR.k (v := .bool false) (by kernel_rfl)) ?_)
           refine ⟨.inl (hS.pick [3, 4]), ?_⟩
           refine K.DW.done (by kernel_rfl) ?_
           refine K.t (K.f (K.k ?_))
           refine K.blk_normal ?_
           refine K.t (K.g (K.q [.int .i64 ((j : Nat) : Int)] ?_))
           refine K.a (K.QR.n64 ((((j : Nat) : Int) : Int) + (1 : Int)) ((j + 1 : Nat) : Int) (by kernel_rfl) (by omega)) ?_
           refine K.q [.int .i64 ((j + 1 : Nat) : Int)] (K.z (K.t ?_))
           refine ⟨_, ?_, j + 1, x, (act7 M ((lns c).toNat) (c.th.toNat) (ls.getD j pk0).act), g1, h1, l_120, l_123, rfl, ⟨by rfl, by rfl, by rfl, by rfl, by rfl, by rfl, by rfl, by rfl, by rfl, trivial⟩, (by omega), (by assumption), (by assumption), (by assumption), x_112, x_113, x_121, x_124, hS.pick [3, 0, 4, 5, 1, 2, 6, 7, 8]⟩
           omega
         ·cases (hb_126.symm.trans (show x.done = false from hb_125))
        ·
         refine K.KW.gdrawn [2, 4] hS (by kernel_rfl) ?_
         clear hS; intro w hS
         refine K.DW.q 0 (by kernel_rfl) rfl rfl (by kernel_rfl) rfl (fun w hS => K.QR.k (v := .pointer (some ⟨p_8, 0, none⟩)) (by kernel_rfl)) (hS.pick [2, 4]) ?_
         refine K.DW.l 1 rfl (by kernel_rfl) rfl (K.OW.q rfl (K.QR.k (v := .pointer (some ⟨r_10, 0, none⟩)) (by kernel_rfl)) ?_)
         refine ⟨.inl (hS.pick [2, 4]), ?_⟩
         refine K.DW.l 2 rfl (by kernel_rfl) rfl (K.OW.gcall hS [1, 0] [2, 3, 4, 5, 6, 7, 8] [.pointer (some ⟨p_8, 0, none⟩), .pointer (some ⟨r_10, 0, none⟩)] (same7_ok _ _ _ _ _ _ _ _ _ _ x_121 x_124) ?_)
         clear hS; rintro _ _ w ⟨rfl, rfl⟩ hS
         replace hS : K.Sat w0 [l_120, l_123, g_103, g1, h1, gl_12, g_5, g_2, fr] w := hS
         refine ⟨.inl (hS.pick [2, 4]), ?_⟩
         refine K.DW.l 3 rfl (by kernel_rfl) rfl (K.OW.q rfl (K.QR.k (v := .bool false) (by kernel_rfl)) ?_)
         refine ⟨.inl (hS.pick [2, 4]), ?_⟩
         refine K.DW.l 4 rfl (by kernel_rfl) rfl (K.OW.q rfl (K.QR.k (v := .bool false) (by kernel_rfl)) ?_)
         refine ⟨.inl (hS.pick [2, 4]), ?_⟩
         refine K.DW.q 5 (by kernel_rfl) rfl rfl (by kernel_rfl) (by kernel_rfl) (fun w hS => K.QR.ldN [.pointer u_90, .pointer v_91, .pointer w_92] rfl rfl (by kernel_rfl) (by kernel_rfl) (K.cells (K.cl ((hS.blk 0 rfl hg_104).cell rfl) (K.cl ((hS.blk 0 rfl hg_104).cell rfl) (K.cl ((hS.blk 0 rfl hg_104).cell rfl) K.cl0))))) (hS.pick [2, 4]) ?_
         refine K.DW.q 7 (by kernel_rfl) rfl rfl (by kernel_rfl) (by kernel_rfl) (fun w hS => K.QR.k (v := .pointer (some ⟨r_93, 0, none⟩)) (by kernel_rfl)) (hS.pick [2, 4]) ?_
         refine K.DW.q 8 (by kernel_rfl) rfl rfl (by kernel_rfl) (by kernel_rfl) (fun w hS => K.QR.k (v := .pointer (some ⟨r_93, 0, none⟩)) (by kernel_rfl)) (hS.pick [2, 4]) ?_
         refine K.DW.q 9 (by kernel_rfl) rfl rfl (by kernel_rfl) (by kernel_rfl) (fun w hS => K.QR.k (v := .pointer (some ⟨r_93, 6, none⟩)) (by kernel_rfl)) (hS.pick [2, 4]) ?_
         refine K.DW.q 10 (by kernel_rfl) rfl rfl (by kernel_rfl) (by kernel_rfl) (fun w hS => K.QR.ld1 (v := .int .i64 (lineE x)) rfl rfl (by kernel_rfl) ((hS.blk 1 rfl x_113).cell rfl)) (hS.pick [2, 4]) ?_
         refine K.DW.q 11 (by kernel_rfl) rfl rfl (by kernel_rfl) (by kernel_rfl) (fun w hS => K.QR.nice (v := .bool (((lineE x) : Int) == (0 : Int))) (by kernel_rfl) (congrArg Value.bool (beq_iff_eq.2 (lineE_t hb_125)))) (hS.pick [2, 4]) ?_
         refine K.DW.l 6 rfl (by kernel_rfl) (by kernel_rfl) (K.OW.gcall hS [3] [0, 1, 2, 4, 5, 6, 7, 8] [.agg #[.pointer u_90, .pointer v_91, .pointer w_92]] (machDone_ok _ _ x _ _ _ _ x_112) ?_)
         clear hS; rintro _ _ w ⟨rfl, rfl⟩ hS
         replace hS : K.Sat w0 [g1, l_120, l_123, g_103, h1, gl_12, g_5, g_2, fr] w := hS
         refine ⟨.inl (hS.pick [3, 4]), ?_⟩
         cases hb_128 : x.done
         ·cases (hb_128.symm.trans (show x.done = true from hb_125))
         ·
          refine K.DW.l 12 rfl (by kernel_rfl) (by kernel_rfl) (K.OW.q rfl (K.QR.k (v := .bool false) (by kernel_rfl)) ?_)
          refine ⟨.inl (hS.pick [3, 4]), ?_⟩
          refine K.DW.l 13 rfl (by kernel_rfl) rfl (K.OW.q rfl (K.QR.k (v := .bool false) (by kernel_rfl)) ?_)
          refine ⟨.inl (hS.pick [3, 4]), ?_⟩
          refine K.DW.l 14 rfl (by kernel_rfl) rfl (K.OW.q rfl (K.QR.k (v := .bool false) (by kernel_rfl)) ?_)
          refine ⟨.inl (hS.pick [3, 4]), ?_⟩
          refine K.DW.q 15 (by kernel_rfl) rfl rfl (by kernel_rfl) (by kernel_rfl) (fun w hS => K.QR.k (v := .pointer (some ⟨r_100, 2, none⟩)) (by kernel_rfl)) (hS.pick [3, 4]) ?_
          refine K.DW.q 16 (by kernel_rfl) rfl rfl (by kernel_rfl) (by kernel_rfl) (fun w hS => K.QR.ld1 (v := .pointer w_92) rfl rfl (by kernel_rfl) ((hS.blk 0 rfl hg_104).cell rfl)) (hS.pick [3, 4]) ?_
          refine K.DW.q 18 (by kernel_rfl) rfl rfl (by kernel_rfl) (by kernel_rfl) (fun w hS => K.QR.k (v := .pointer (some ⟨r_93, 0, none⟩)) (by kernel_rfl)) (hS.pick [3, 4]) ?_
          refine K.DW.q 19 (by kernel_rfl) rfl rfl (by kernel_rfl) (by kernel_rfl) (fun w hS => K.QR.k (v := .pointer (some ⟨r_93, 0, none⟩)) (by kernel_rfl)) (hS.pick [3, 4]) ?_
          refine K.DW.q 20 (by kernel_rfl) rfl rfl (by kernel_rfl) (by kernel_rfl) (fun w hS => K.QR.k (v := .pointer (some ⟨r_93, 8, none⟩)) (by kernel_rfl)) (hS.pick [3, 4]) ?_
          refine K.DW.q 21 (by kernel_rfl) rfl rfl (by kernel_rfl) (by kernel_rfl) (fun w hS => K.QR.ld1 (v := .bool x.moved) rfl rfl (by kernel_rfl) ((hS.blk 1 rfl x_113).cell rfl)) (hS.pick [3, 4]) ?_
          refine K.DW.l 17 rfl (by kernel_rfl) (by kernel_rfl) (K.OW.gcall hS [0] [1, 2, 3, 4, 5, 6, 7, 8] [.pointer w_92] (machMoved_ok _ _ x _ _ _ _ x_112) ?_)
          clear hS; rintro _ _ w ⟨rfl, rfl⟩ hS
          replace hS : K.Sat w0 [g1, l_120, l_123, g_103, h1, gl_12, g_5, g_2, fr] w := hS
          refine ⟨.inl (hS.pick [3, 4]), ?_⟩
          cases hb_129 : x.moved
          ·
           refine K.DW.l 22 rfl (by kernel_rfl) (by kernel_rfl) (K.OW.q rfl (K.QR.k (v := .bool false) (by kernel_rfl)) ?_)
           refine ⟨.inl (hS.pick [3, 4]), ?_⟩
           refine K.DW.l 23 rfl (by kernel_rfl) rfl (K.OW.q rfl (K.QR.k (v := .bool false) (by kernel_rfl)) ?_)
           refine ⟨.inl (hS.pick [3, 4]), ?_⟩
           refine K.DW.done (by kernel_rfl) ?_
           refine K.t (K.f (K.k ?_))
           refine K.blk_normal ?_
           refine K.t (K.g (K.q [.int .i64 ((j : Nat) : Int)] ?_))
           refine K.a (K.QR.n64 ((((j : Nat) : Int) : Int) + (1 : Int)) ((j + 1 : Nat) : Int) (by kernel_rfl) (by omega)) ?_
           refine K.q [.int .i64 ((j + 1 : Nat) : Int)] (K.z (K.t ?_))
           refine ⟨_, ?_, j + 1, x, (act7 M ((lns c).toNat) (c.th.toNat) (ls.getD j pk0).act), g1, h1, l_120, l_123, rfl, ⟨by rfl, by rfl, by rfl, by rfl, by rfl, by rfl, by rfl, by rfl, by rfl, trivial⟩, (by omega), (by assumption), (by assumption), (by assumption), x_112, x_113, x_121, x_124, hS.pick [3, 0, 4, 5, 1, 2, 6, 7, 8]⟩
           omega
          ·
           refine K.DW.l 22 rfl (by kernel_rfl) (by kernel_rfl) (K.OW.q rfl (K.QR.k (v := .bool false) (by kernel_rfl)) ?_)
           refine ⟨.inl (hS.pick [3, 4]), ?_⟩
           refine K.DW.l 23 rfl (by kernel_rfl) rfl (K.OW.q rfl (K.QR.k (v := .bool false) (by kernel_rfl)) ?_)
           refine ⟨.inl (hS.pick [3, 4]), ?_⟩
           refine K.DW.done (by kernel_rfl) ?_
           refine K.t (K.f (K.k ?_))
           refine K.blk_normal ?_
           refine K.t (K.g (K.q [.int .i64 ((j : Nat) : Int)] ?_))
           refine K.a (K.QR.n64 ((((j : Nat) : Int) : Int) + (1 : Int)) ((j + 1 : Nat) : Int) (by kernel_rfl) (by omega)) ?_
           refine K.q [.int .i64 ((j + 1 : Nat) : Int)] (K.z (K.t ?_))
           refine ⟨_, ?_, j + 1, x, (act7 M ((lns c).toNat) (c.th.toNat) (ls.getD j pk0).act), g1, h1, l_120, l_123, rfl, ⟨by rfl, by rfl, by rfl, by rfl, by rfl, by rfl, by rfl, by rfl, by rfl, trivial⟩, (by omega), (by assumption), (by assumption), (by assumption), x_112, x_113, x_121, x_124, hS.pick [3, 0, 4, 5, 1, 2, 6, 7, 8]⟩
           omega
       ·
        refine K.z (K.t (K.h (K.s (K.g ?_))))
        refine K.a (K.QR.ldN [.pointer u_90, .pointer v_91, .pointer w_92] rfl rfl (by kernel_rfl) (by kernel_rfl) (K.cells (K.cl ((hS.blk 0 rfl hg_104).cell rfl) (K.cl ((hS.blk 0 rfl hg_104).cell rfl) (K.cl ((hS.blk 0 rfl hg_104).cell rfl) K.cl0))))) ?_
        refine K.q [.pointer (some ⟨p_8, 0, none⟩)] ?_
        refine K.l (K.OW.gcall hS [1, 3, 4] [0, 2, 5, 6, 7, 8] [.agg #[.pointer u_90, .pointer v_91, .pointer w_92], .pointer (some ⟨p_8, 0, none⟩)] (machStep2_ok _ _ _ _ _ _ c (by first | assumption | (unfold cfgOk; decide)) x M _ _ _ _ _ _ x_112 hl_15 x_114 (by assumption) (by assumption) (by assumption)) ?_)
        clear hS; rintro _ _ w ⟨g_130, l_131, rfl, rfl, h_132, x_133⟩ hS
        replace hS : K.Sat w0 [g_130, gl_12, l_131, g_103, h1, m1, g_5, g_2, fr] w := hS
        obtain ⟨hx_134, hM_135⟩ := (stepE_good (by first | assumption | (unfold cfgOk; decide)) (by assumption) (by assumption) : (stepE c ((lns c).toNat) x M).1.good ∧ (stepE c ((lns c).toNat) x M).2.good)
        have hn_136 : (stepE c ((lns c).toNat) x M).1 ≠ MachE.no := stepE_no (by assumption)
        cases hb_137 : (stepE c ((lns c).toNat) x M).1.done
        ·
         refine K.q [.bool false] (K.z (K.t (K.s (K.g (K.q [.pointer (some ⟨r_93, 0, none⟩), .pointer (some ⟨r_10, 0, none⟩)] ?_)))))
         refine K.l (K.OW.gcall hS [4, 5] [0, 1, 2, 3, 6, 7, 8] [.pointer (some ⟨r_93, 0, none⟩), .pointer (some ⟨r_10, 0, none⟩)] (rmachStep_ok _ _ _ _ _ _ c (by first | assumption | (unfold cfgOk; decide)) x M _ _ (by assumption) x_113 x_115 (by assumption) (by assumption)) ?_)
         clear hS; rintro _ _ w ⟨g_138, l_139, rfl, rfl, h_140, x_141⟩ hS
         replace hS : K.Sat w0 [g_138, l_139, g_130, gl_12, l_131, g_103, g_5, g_2, fr] w := hS
         refine K.z (K.t (K.s (K.g (K.q [.bool false, .pointer (some ⟨r_93, 0, none⟩), .pointer (some ⟨r_93, 0, none⟩), .pointer (some ⟨r_93, 6, none⟩)] ?_))))
         refine K.d (.int .i64 (lineE ((stepE c ((lns c).toNat) x M).1))) ((hS.blk 0 rfl h_140).cell rfl) ?_
         refine K.xe ((lineE ((stepE c ((lns c).toNat) x M).1)) : Int) (0 : Int) (lineE_f hb_137 (by assumption)) ?_
         refine K.q [.bool false] (K.z (K.t (K.f (K.k (K.t (K.s ?_))))))
         cases hb_142 : ((stepE c ((lns c).toNat) x M).1).done
         ·
          refine K.KW.gdrawn [0, 5] hS (by kernel_rfl) ?_
          clear hS; intro w hS
          refine K.DW.q 0 (by kernel_rfl) rfl rfl (by kernel_rfl) rfl (fun w hS => K.QR.k (v := .pointer (some ⟨p_8, 0, none⟩)) (by kernel_rfl)) (hS.pick [0, 5]) ?_
          refine K.DW.l 1 rfl (by kernel_rfl) rfl (K.OW.q rfl (K.QR.k (v := .pointer (some ⟨r_10, 0, none⟩)) (by kernel_rfl)) ?_)
          refine ⟨.inl (hS.pick [0, 5]), ?_⟩
          refine K.DW.l 2 rfl (by kernel_rfl) rfl (K.OW.gcall hS [4, 1] [0, 2, 3, 5, 6, 7, 8] [.pointer (some ⟨p_8, 0, none⟩), .pointer (some ⟨r_10, 0, none⟩)] (same7_ok _ _ _ _ _ _ _ _ _ _ x_133 x_141) ?_)
          clear hS; rintro _ _ w ⟨rfl, rfl⟩ hS
          replace hS : K.Sat w0 [l_131, l_139, g_138, g_130, gl_12, g_103, g_5, g_2, fr] w := hS
          refine ⟨.inl (hS.pick [2, 5]), ?_⟩
          refine K.DW.l 3 rfl (by kernel_rfl) rfl (K.OW.q rfl (K.QR.k (v := .bool false) (by kernel_rfl)) ?_)
          refine ⟨.inl (hS.pick [2, 5]), ?_⟩
          refine K.DW.l 4 rfl (by kernel_rfl) rfl (K.OW.q rfl (K.QR.k (v := .bool false) (by kernel_rfl)) ?_)
          refine ⟨.inl (hS.pick [2, 5]), ?_⟩
          refine K.DW.q 5 (by kernel_rfl) rfl rfl (by kernel_rfl) (by kernel_rfl) (fun w hS => K.QR.ldN [.pointer u_90, .pointer v_91, .pointer w_92] rfl rfl (by kernel_rfl) (by kernel_rfl) (K.cells (K.cl ((hS.blk 1 rfl hg_104).cell rfl) (K.cl ((hS.blk 1 rfl hg_104).cell rfl) (K.cl ((hS.blk 1 rfl hg_104).cell rfl) K.cl0))))) (hS.pick [2, 5]) ?_
          refine K.DW.q 7 (by kernel_rfl) rfl rfl (by kernel_rfl) (by kernel_rfl) (fun w hS => K.QR.k (v := .pointer (some ⟨r_93, 0, none⟩)) (by kernel_rfl)) (hS.pick [2, 5]) ?_
          refine K.DW.q 8 (by kernel_rfl) rfl rfl (by kernel_rfl) (by kernel_rfl) (fun w hS => K.QR.k (v := .pointer (some ⟨r_93, 0, none⟩)) (by kernel_rfl)) (hS.pick [2, 5]) ?_
          refine K.DW.q 9 (by kernel_rfl) rfl rfl (by kernel_rfl) (by kernel_rfl) (fun w hS => K.QR.k (v := .pointer (some ⟨r_93, 6, none⟩)) (by kernel_rfl)) (hS.pick [2, 5]) ?_
          refine K.DW.q 10 (by kernel_rfl) rfl rfl (by kernel_rfl) (by kernel_rfl) (fun w hS => K.QR.ld1 (v := .int .i64 (lineE ((stepE c ((lns c).toNat) x M).1))) rfl rfl (by kernel_rfl) ((hS.blk 0 rfl h_140).cell rfl)) (hS.pick [2, 5]) ?_
          refine K.DW.q 11 (by kernel_rfl) rfl rfl (by kernel_rfl) (by kernel_rfl) (fun w hS => K.QR.nice (v := .bool (((lineE ((stepE c ((lns c).toNat) x M).1)) : Int) == (0 : Int))) (by kernel_rfl) (congrArg Value.bool (beq_eq_false_iff_ne.2 (lineE_f hb_142 (by assumption))))) (hS.pick [2, 5]) ?_
          refine K.DW.l 6 rfl (by kernel_rfl) (by kernel_rfl) (K.OW.gcall hS [3] [0, 1, 2, 4, 5, 6, 7, 8] [.agg #[.pointer u_90, .pointer v_91, .pointer w_92]] (machDone_ok _ _ ((stepE c ((lns c).toNat) x M).1) _ _ _ _ h_132) ?_)
          clear hS; rintro _ _ w ⟨rfl, rfl⟩ hS
          replace hS : K.Sat w0 [g_130, l_131, l_139, g_138, gl_12, g_103, g_5, g_2, fr] w := hS
          refine ⟨.inl (hS.pick [3, 5]), ?_⟩
          cases hb_143 : ((stepE c ((lns c).toNat) x M).1).done
          ·
           refine K.DW.l 12 rfl (by kernel_rfl) (by kernel_rfl) (K.OW.q rfl (K.QR.k (v := .bool false) (by kernel_rfl)) ?_)
           refine ⟨.inl (hS.pick [3, 5]), ?_⟩
           refine K.DW.l 13 rfl (by kernel_rfl) rfl (K.OW.q rfl (K.QR.k (v := .bool false) (by kernel_rfl)) ?_)
           refine ⟨.inl (hS.pick [3, 5]), ?_⟩
           refine K.DW.l 14 rfl (by kernel_rfl) rfl (K.OW.q rfl (K.QR.k (v := .bool false) (by kernel_rfl)) ?_)
           refine ⟨.inl (hS.pick [3, 5]), ?_⟩
           refine K.DW.q 15 (by kernel_rfl) rfl rfl (by kernel_rfl) (by kernel_rfl) (fun w hS => K.QR.k (v := .pointer (some ⟨r_100, 2, none⟩)) (by kernel_rfl)) (hS.pick [3, 5]) ?_
           refine K.DW.q 16 (by kernel_rfl) rfl rfl (by kernel_rfl) (by kernel_rfl) (fun w hS => K.QR.ld1 (v := .pointer w_92) rfl rfl (by kernel_rfl) ((hS.blk 1 rfl hg_104).cell rfl)) (hS.pick [3, 5]) ?_
           refine K.DW.q 18 (by kernel_rfl) rfl rfl (by kernel_rfl) (by kernel_rfl) (fun w hS => K.QR.k (v := .pointer (some ⟨r_93, 0, none⟩)) (by kernel_rfl)) (hS.pick [3, 5]) ?_
           refine K.DW.q 19 (by kernel_rfl) rfl rfl (by kernel_rfl) (by kernel_rfl) (fun w hS => K.QR.k (v := .pointer (some ⟨r_93, 0, none⟩)) (by kernel_rfl)) (hS.pick [3, 5]) ?_
           refine K.DW.q 20 (by kernel_rfl) rfl rfl (by kernel_rfl) (by kernel_rfl) (fun w hS => K.QR.k (v := .pointer (some ⟨r_93, 8, none⟩)) (by kernel_rfl)) (hS.pick [3, 5]) ?_
           refine K.DW.q 21 (by kernel_rfl) rfl rfl (by kernel_rfl) (by kernel_rfl) (fun w hS => K.QR.ld1 (v := .bool (((stepE c ((lns c).toNat) x M).1).moved)) rfl rfl (by kernel_rfl) ((hS.blk 0 rfl h_140).cell rfl)) (hS.pick [3, 5]) ?_
           refine K.DW.l 17 rfl (by kernel_rfl) (by kernel_rfl) (K.OW.gcall hS [0] [1, 2, 3, 4, 5, 6, 7, 8] [.pointer w_92] (machMoved_ok _ _ ((stepE c ((lns c).toNat) x M).1) _ _ _ _ h_132) ?_)
           clear hS; rintro _ _ w ⟨rfl, rfl⟩ hS
           replace hS : K.Sat w0 [g_130, l_131, l_139, g_138, gl_12, g_103, g_5, g_2, fr] w := hS
           refine ⟨.inl (hS.pick [3, 5]), ?_⟩
           cases hb_144 : ((stepE c ((lns c).toNat) x M).1).moved
           ·
            refine K.DW.l 22 rfl (by kernel_rfl) (by kernel_rfl) (K.OW.q rfl (K.QR.k (v := .bool false) (by kernel_rfl)) ?_)
            refine ⟨.inl (hS.pick [3, 5]), ?_⟩
            refine K.DW.l 23 rfl (by kernel_rfl) rfl (K.OW.q rfl (K.QR.k (v := .bool false) (by kernel_rfl)) ?_)
            refine ⟨.inl (hS.pick [3, 5]), ?_⟩
            refine K.DW.done (by kernel_rfl) ?_
            refine K.t (K.f (K.k ?_))
            refine K.blk_normal ?_
            refine K.t (K.g (K.q [.int .i64 ((j : Nat) : Int)] ?_))
            refine K.a (K.QR.n64 ((((j : Nat) : Int) : Int) + (1 : Int)) ((j + 1 : Nat) : Int) (by kernel_rfl) (by omega)) ?_
            refine K.q [.int .i64 ((j + 1 : Nat) : Int)] (K.z (K.t ?_))
            refine ⟨_, ?_, j + 1, (stepE c ((lns c).toNat) x M).1, ((stepE c ((lns c).toNat) x M).2), g_130, g_138, l_131, l_139, rfl, ⟨by rfl, by rfl, by rfl, by rfl, by rfl, by rfl, by rfl, by rfl, by rfl, trivial⟩, (by omega), (by assumption), (by assumption), (by assumption), h_132, h_140, x_133, x_141, hS.pick [5, 0, 3, 4, 1, 2, 6, 7, 8]⟩
            omega
           ·
            refine K.DW.l 22 rfl (by kernel_rfl) (by kernel_rfl) (K.OW.q rfl (K.QR.k (v := .bool false) (by kernel_rfl)) ?_)
            refine ⟨.inl (hS.pick [3, 5]), ?_⟩
            refine K.DW.l 23 rfl (by kernel_rfl) rfl (K.OW.q rfl (K.QR.k (v := .bool false) (by kernel_rfl)) ?_)
            refine ⟨.inl (hS.pick [3, 5]), ?_⟩
            refine K.DW.done (by kernel_rfl) ?_
            refine K.t (K.f (K.k ?_))
            refine K.blk_normal ?_
            refine K.t (K.g (K.q [.int .i64 ((j : Nat) : Int)] ?_))
            refine K.a (K.QR.n64 ((((j : Nat) : Int) : Int) + (1 : Int)) ((j + 1 : Nat) : Int) (by kernel_rfl) (by omega)) ?_
            refine K.q [.int .i64 ((j + 1 : Nat) : Int)] (K.z (K.t ?_))
            refine ⟨_, ?_, j + 1, (stepE c ((lns c).toNat) x M).1, ((stepE c ((lns c).toNat) x M).2), g_130, g_138, l_131, l_139, rfl, ⟨by rfl, by rfl, by rfl, by rfl, by rfl, by rfl, by rfl, by rfl, by rfl, trivial⟩, (by omega), (by assumption), (by assumption), (by assumption), h_132, h_140, x_133, x_141, hS.pick [5, 0, 3, 4, 1, 2, 6, 7, 8]⟩
            omega
          ·cases (hb_143.symm.trans (show ((stepE c ((lns c).toNat) x M).1).done = false from hb_142))
         ·
          refine K.KW.gdrawn [0, 5] hS (by kernel_rfl) ?_
          clear hS; intro w hS
          refine K.DW.q 0 (by kernel_rfl) rfl rfl (by kernel_rfl) rfl (fun w hS => K.QR.k (v := .pointer (some ⟨p_8, 0, none⟩)) (by kernel_rfl)) (hS.pick [0, 5]) ?_
          refine K.DW.l 1 rfl (by kernel_rfl) rfl (K.OW.q rfl (K.QR.k (v := .pointer (some ⟨r_10, 0, none⟩)) (by kernel_rfl)) ?_)
          refine ⟨.inl (hS.pick [0, 5]), ?_⟩
          refine K.DW.l 2 rfl (by kernel_rfl) rfl (K.OW.gcall hS [4, 1] [0, 2, 3, 5, 6, 7, 8] [.pointer (some ⟨p_8, 0, none⟩), .pointer (some ⟨r_10, 0, none⟩)] (same7_ok _ _ _ _ _ _ _ _ _ _ x_133 x_141) ?_)
          clear hS; rintro _ _ w ⟨rfl, rfl⟩ hS
          replace hS : K.Sat w0 [l_131, l_139, g_138, g_130, gl_12, g_103, g_5, g_2, fr] w := hS
          refine ⟨.inl (hS.pick [2, 5]), ?_⟩
          refine K.DW.l 3 rfl (by kernel_rfl) rfl (K.OW.q rfl (K.QR.k (v := .bool false) (by kernel_rfl)) ?_)
          refine ⟨.inl (hS.pick [2, 5]), ?_⟩
          refine K.DW.l 4 rfl (by kernel_rfl) rfl (K.OW.q rfl (K.QR.k (v := .bool false) (by kernel_rfl)) ?_)
          refine ⟨.inl (hS.pick [2, 5]), ?_⟩
          refine K.DW.q 5 (by kernel_rfl) rfl rfl (by kernel_rfl) (by kernel_rfl) (fun w hS => K.QR.ldN [.pointer u_90, .pointer v_91, .pointer w_92] rfl rfl (by kernel_rfl) (by kernel_rfl) (K.cells (K.cl ((hS.blk 1 rfl hg_104).cell rfl) (K.cl ((hS.blk 1 rfl hg_104).cell rfl) (K.cl ((hS.blk 1 rfl hg_104).cell rfl) K.cl0))))) (hS.pick [2, 5]) ?_
          refine K.DW.q 7 (by kernel_rfl) rfl rfl (by kernel_rfl) (by kernel_rfl) (fun w hS => K.QR.k (v := .pointer (some ⟨r_93, 0, none⟩)) (by kernel_rfl)) (hS.pick [2, 5]) ?_
          refine K.DW.q 8 (by kernel_rfl) rfl rfl (by kernel_rfl) (by kernel_rfl) (fun w hS => K.QR.k (v := .pointer (some ⟨r_93, 0, none⟩)) (by kernel_rfl)) (hS.pick [2, 5]) ?_
          refine K.DW.q 9 (by kernel_rfl) rfl rfl (by kernel_rfl) (by kernel_rfl) (fun w hS => K.QR.k (v := .pointer (some ⟨r_93, 6, none⟩)) (by kernel_rfl)) (hS.pick [2, 5]) ?_
          refine K.DW.q 10 (by kernel_rfl) rfl rfl (by kernel_rfl) (by kernel_rfl) (fun w hS => K.QR.ld1 (v := .int .i64 (lineE ((stepE c ((lns c).toNat) x M).1))) rfl rfl (by kernel_rfl) ((hS.blk 0 rfl h_140).cell rfl)) (hS.pick [2, 5]) ?_
          refine K.DW.q 11 (by kernel_rfl) rfl rfl (by kernel_rfl) (by kernel_rfl) (fun w hS => K.QR.nice (v := .bool (((lineE ((stepE c ((lns c).toNat) x M).1)) : Int) == (0 : Int))) (by kernel_rfl) (congrArg Value.bool (beq_iff_eq.2 (lineE_t hb_142)))) (hS.pick [2, 5]) ?_
          refine K.DW.l 6 rfl (by kernel_rfl) (by kernel_rfl) (K.OW.gcall hS [3] [0, 1, 2, 4, 5, 6, 7, 8] [.agg #[.pointer u_90, .pointer v_91, .pointer w_92]] (machDone_ok _ _ ((stepE c ((lns c).toNat) x M).1) _ _ _ _ h_132) ?_)
          clear hS; rintro _ _ w ⟨rfl, rfl⟩ hS
          replace hS : K.Sat w0 [g_130, l_131, l_139, g_138, gl_12, g_103, g_5, g_2, fr] w := hS
          refine ⟨.inl (hS.pick [3, 5]), ?_⟩
          cases hb_145 : ((stepE c ((lns c).toNat) x M).1).done
          ·cases (hb_145.symm.trans (show ((stepE c ((lns c).toNat) x M).1).done = true from hb_142))
          ·
           refine K.DW.l 12 rfl (by kernel_rfl) (by kernel_rfl) (K.OW.q rfl (K.QR.k (v := .bool false) (by kernel_rfl)) ?_)
           refine ⟨.inl (hS.pick [3, 5]), ?_⟩
           refine K.DW.l 13 rfl (by kernel_rfl) rfl (K.OW.q rfl (K.QR.k (v := .bool false) (by kernel_rfl)) ?_)
           refine ⟨.inl (hS.pick [3, 5]), ?_⟩
           refine K.DW.l 14 rfl (by kernel_rfl) rfl (K.OW.q rfl (K.QR.k (v := .bool false) (by kernel_rfl)) ?_)
           refine ⟨.inl (hS.pick [3, 5]), ?_⟩
           refine K.DW.q 15 (by kernel_rfl) rfl rfl (by kernel_rfl) (by kernel_rfl) (fun w hS => K.QR.k (v := .pointer (some ⟨r_100, 2, none⟩)) (by kernel_rfl)) (hS.pick [3, 5]) ?_
           refine K.DW.q 16 (by kernel_rfl) rfl rfl (by kernel_rfl) (by kernel_rfl) (fun w hS => K.QR.ld1 (v := .pointer w_92) rfl rfl (by kernel_rfl) ((hS.blk 1 rfl hg_104).cell rfl)) (hS.pick [3, 5]) ?_
           refine K.DW.q 18 (by kernel_rfl) rfl rfl (by kernel_rfl) (by kernel_rfl) (fun w hS => K.QR.k (v := .pointer (some ⟨r_93, 0, none⟩)) (by kernel_rfl)) (hS.pick [3, 5]) ?_
           refine K.DW.q 19 (by kernel_rfl) rfl rfl (by kernel_rfl) (by kernel_rfl) (fun w hS => K.QR.k (v := .pointer (some ⟨r_93, 0, none⟩)) (by kernel_rfl)) (hS.pick [3, 5]) ?_
           refine K.DW.q 20 (by kernel_rfl) rfl rfl (by kernel_rfl) (by kernel_rfl) (fun w hS => K.QR.k (v := .pointer (some ⟨r_93, 8, none⟩)) (by kernel_rfl)) (hS.pick [3, 5]) ?_
           refine K.DW.q 21 (by kernel_rfl) rfl rfl (by kernel_rfl) (by kernel_rfl) (fun w hS => K.QR.ld1 (v := .bool (((stepE c ((lns c).toNat) x M).1).moved)) rfl rfl (by kernel_rfl) ((hS.blk 0 rfl h_140).cell rfl)) (hS.pick [3, 5]) ?_
           refine K.DW.l 17 rfl (by kernel_rfl) (by kernel_rfl) (K.OW.gcall hS [0] [1, 2, 3, 4, 5, 6, 7, 8] [.pointer w_92] (machMoved_ok _ _ ((stepE c ((lns c).toNat) x M).1) _ _ _ _ h_132) ?_)
           clear hS; rintro _ _ w ⟨rfl, rfl⟩ hS
           replace hS : K.Sat w0 [g_130, l_131, l_139, g_138, gl_12, g_103, g_5, g_2, fr] w := hS
           refine ⟨.inl (hS.pick [3, 5]), ?_⟩
           cases hb_146 : ((stepE c ((lns c).toNat) x M).1).moved
           ·
            refine K.DW.l 22 rfl (by kernel_rfl) (by kernel_rfl) (K.OW.q rfl (K.QR.k (v := .bool false) (by kernel_rfl)) ?_)
            refine ⟨.inl (hS.pick [3, 5]), ?_⟩
            refine K.DW.l 23 rfl (by kernel_rfl) rfl (K.OW.q rfl (K.QR.k (v := .bool false) (by kernel_rfl)) ?_)
            refine ⟨.inl (hS.pick [3, 5]), ?_⟩
            refine K.DW.done (by kernel_rfl) ?_
            refine K.t (K.f (K.k ?_))
            refine K.blk_normal ?_
            refine K.t (K.g (K.q [.int .i64 ((j : Nat) : Int)] ?_))
            refine K.a (K.QR.n64 ((((j : Nat) : Int) : Int) + (1 : Int)) ((j + 1 : Nat) : Int) (by kernel_rfl) (by omega)) ?_
            refine K.q [.int .i64 ((j + 1 : Nat) : Int)] (K.z (K.t ?_))
            refine ⟨_, ?_, j + 1, (stepE c ((lns c).toNat) x M).1, ((stepE c ((lns c).toNat) x M).2), g_130, g_138, l_131, l_139, rfl, ⟨by rfl, by rfl, by rfl, by rfl, by rfl, by rfl, by rfl, by rfl, by rfl, trivial⟩, (by omega), (by assumption), (by assumption), (by assumption), h_132, h_140, x_133, x_141, hS.pick [5, 0, 3, 4, 1, 2, 6, 7, 8]⟩
            omega
           ·
            refine K.DW.l 22 rfl (by kernel_rfl) (by kernel_rfl) (K.OW.q rfl (K.QR.k (v := .bool false) (by kernel_rfl)) ?_)
            refine ⟨.inl (hS.pick [3, 5]), ?_⟩
            refine K.DW.l 23 rfl (by kernel_rfl) rfl (K.OW.q rfl (K.QR.k (v := .bool false) (by kernel_rfl)) ?_)
            refine ⟨.inl (hS.pick [3, 5]), ?_⟩
            refine K.DW.done (by kernel_rfl) ?_
            refine K.t (K.f (K.k ?_))
            refine K.blk_normal ?_
            refine K.t (K.g (K.q [.int .i64 ((j : Nat) : Int)] ?_))
            refine K.a (K.QR.n64 ((((j : Nat) : Int) : Int) + (1 : Int)) ((j + 1 : Nat) : Int) (by kernel_rfl) (by omega)) ?_
            refine K.q [.int .i64 ((j + 1 : Nat) : Int)] (K.z (K.t ?_))
            refine ⟨_, ?_, j + 1, (stepE c ((lns c).toNat) x M).1, ((stepE c ((lns c).toNat) x M).2), g_130, g_138, l_131, l_139, rfl, ⟨by rfl, by rfl, by rfl, by rfl, by rfl, by rfl, by rfl, by rfl, by rfl, trivial⟩, (by omega), (by assumption), (by assumption), (by assumption), h_132, h_140, x_133, x_141, hS.pick [5, 0, 3, 4, 1, 2, 6, 7, 8]⟩
            omega
        ·
         refine K.q [.bool true] (K.z (K.t (K.s (K.g (K.q [.pointer (some ⟨r_93, 0, none⟩), .pointer (some ⟨r_10, 0, none⟩)] ?_)))))
         refine K.l (K.OW.gcall hS [4, 5] [0, 1, 2, 3, 6, 7, 8] [.pointer (some ⟨r_93, 0, none⟩), .pointer (some ⟨r_10, 0, none⟩)] (rmachStep_ok _ _ _ _ _ _ c (by first | assumption | (unfold cfgOk; decide)) x M _ _ (by assumption) x_113 x_115 (by assumption) (by assumption)) ?_)
         clear hS; rintro _ _ w ⟨g_147, l_148, rfl, rfl, h_149, x_150⟩ hS
         replace hS : K.Sat w0 [g_147, l_148, g_130, gl_12, l_131, g_103, g_5, g_2, fr] w := hS
         refine K.z (K.t (K.s (K.g (K.q [.bool true, .pointer (some ⟨r_93, 0, none⟩), .pointer (some ⟨r_93, 0, none⟩), .pointer (some ⟨r_93, 6, none⟩)] ?_))))
         refine K.d (.int .i64 (lineE ((stepE c ((lns c).toNat) x M).1))) ((hS.blk 0 rfl h_149).cell rfl) ?_
         refine K.ye ((lineE ((stepE c ((lns c).toNat) x M).1)) : Int) (0 : Int) (lineE_t hb_137) ?_
         refine K.q [.bool false] (K.z (K.t (K.f (K.k (K.t (K.s ?_))))))
         cases hb_151 : ((stepE c ((lns c).toNat) x M).1).done
         ·
          refine K.KW.gdrawn [0, 5] hS (by kernel_rfl) ?_
          clear hS; intro w hS
          refine K.DW.q 0 (by kernel_rfl) rfl rfl (by kernel_rfl) rfl (fun w hS => K.QR.k (v := .pointer (some ⟨p_8, 0, none⟩)) (by kernel_rfl)) (hS.pick [0, 5]) ?_
          refine K.DW.l 1 rfl (by kernel_rfl) rfl (K.OW.q rfl (K.QR.k (v := .pointer (some ⟨r_10, 0, none⟩)) (by kernel_rfl)) ?_)
          refine ⟨.inl (hS.pick [0, 5]), ?_⟩
          refine K.DW.l 2 rfl (by kernel_rfl) rfl (K.OW.gcall hS [4, 1] [0, 2, 3, 5, 6, 7, 8] [.pointer (some ⟨p_8, 0, none⟩), .pointer (some ⟨r_10, 0, none⟩)] (same7_ok _ _ _ _ _ _ _ _ _ _ x_133 x_150) ?_)
          clear hS; rintro _ _ w ⟨rfl, rfl⟩ hS
          replace hS : K.Sat w0 [l_131, l_148, g_147, g_130, gl_12, g_103, g_5, g_2, fr] w := hS
          refine ⟨.inl (hS.pick [2, 5]), ?_⟩
          refine K.DW.l 3 rfl (by kernel_rfl) rfl (K.OW.q rfl (K.QR.k (v := .bool false) (by kernel_rfl)) ?_)
          refine ⟨.inl (hS.pick [2, 5]), ?_⟩
          refine K.DW.l 4 rfl (by kernel_rfl) rfl (K.OW.q rfl (K.QR.k (v := .bool false) (by kernel_rfl)) ?_)
          refine ⟨.inl (hS.pick [2, 5]), ?_⟩
          refine K.DW.q 5 (by kernel_rfl) rfl rfl (by kernel_rfl) (by kernel_rfl) (fun w hS => K.QR.ldN [.pointer u_90, .pointer v_91, .pointer w_92] rfl rfl (by kernel_rfl) (by kernel_rfl) (K.cells (K.cl ((hS.blk 1 rfl hg_104).cell rfl) (K.cl ((hS.blk 1 rfl hg_104).cell rfl) (K.cl ((hS.blk 1 rfl hg_104).cell rfl) K.cl0))))) (hS.pick [2, 5]) ?_
          refine K.DW.q 7 (by kernel_rfl) rfl rfl (by kernel_rfl) (by kernel_rfl) (fun w hS => K.QR.k (v := .pointer (some ⟨r_93, 0, none⟩)) (by kernel_rfl)) (hS.pick [2, 5]) ?_
          refine K.DW.q 8 (by kernel_rfl) rfl rfl (by kernel_rfl) (by kernel_rfl) (fun w hS => K.QR.k (v := .pointer (some ⟨r_93, 0, none⟩)) (by kernel_rfl)) (hS.pick [2, 5]) ?_
          refine K.DW.q 9 (by kernel_rfl) rfl rfl (by kernel_rfl) (by kernel_rfl) (fun w hS => K.QR.k (v := .pointer (some ⟨r_93, 6, none⟩)) (by kernel_rfl)) (hS.pick [2, 5]) ?_
          refine K.DW.q 10 (by kernel_rfl) rfl rfl (by kernel_rfl) (by kernel_rfl) (fun w hS => K.QR.ld1 (v := .int .i64 (lineE ((stepE c ((lns c).toNat) x M).1))) rfl rfl (by kernel_rfl) ((hS.blk 0 rfl h_149).cell rfl)) (hS.pick [2, 5]) ?_
          refine K.DW.q 11 (by kernel_rfl) rfl rfl (by kernel_rfl) (by kernel_rfl) (fun w hS => K.QR.nice (v := .bool (((lineE ((stepE c ((lns c).toNat) x M).1)) : Int) == (0 : Int))) (by kernel_rfl) (congrArg Value.bool (beq_eq_false_iff_ne.2 (lineE_f hb_151 (by assumption))))) (hS.pick [2, 5]) ?_
          refine K.DW.l 6 rfl (by kernel_rfl) (by kernel_rfl) (K.OW.gcall hS [3] [0, 1, 2, 4, 5, 6, 7, 8] [.agg #[.pointer u_90, .pointer v_91, .pointer w_92]] (machDone_ok _ _ ((stepE c ((lns c).toNat) x M).1) _ _ _ _ h_132) ?_)
          clear hS; rintro _ _ w ⟨rfl, rfl⟩ hS
          replace hS : K.Sat w0 [g_130, l_131, l_148, g_147, gl_12, g_103, g_5, g_2, fr] w := hS
          refine ⟨.inl (hS.pick [3, 5]), ?_⟩
          cases hb_152 : ((stepE c ((lns c).toNat) x M).1).done
          ·
           refine K.DW.l 12 rfl (by kernel_rfl) (by kernel_rfl) (K.OW.q rfl (K.QR.k (v := .bool false) (by kernel_rfl)) ?_)
           refine ⟨.inl (hS.pick [3, 5]), ?_⟩
           refine K.DW.l 13 rfl (by kernel_rfl) rfl (K.OW.q rfl (K.QR.k (v := .bool false) (by kernel_rfl)) ?_)
           refine ⟨.inl (hS.pick [3, 5]), ?_⟩
           refine K.DW.l 14 rfl (by kernel_rfl) rfl (K.OW.q rfl (K.QR.k (v := .bool false) (by kernel_rfl)) ?_)
           refine ⟨.inl (hS.pick [3, 5]), ?_⟩
           refine K.DW.q 15 (by kernel_rfl) rfl rfl (by kernel_rfl) (by kernel_rfl) (fun w hS => K.QR.k (v := .pointer (some ⟨r_100, 2, none⟩)) (by kernel_rfl)) (hS.pick [3, 5]) ?_
           refine K.DW.q 16 (by kernel_rfl) rfl rfl (by kernel_rfl) (by kernel_rfl) (fun w hS => K.QR.ld1 (v := .pointer w_92) rfl rfl (by kernel_rfl) ((hS.blk 1 rfl hg_104).cell rfl)) (hS.pick [3, 5]) ?_
           refine K.DW.q 18 (by kernel_rfl) rfl rfl (by kernel_rfl) (by kernel_rfl) (fun w hS => K.QR.k (v := .pointer (some ⟨r_93, 0, none⟩)) (by kernel_rfl)) (hS.pick [3, 5]) ?_
           refine K.DW.q 19 (by kernel_rfl) rfl rfl (by kernel_rfl) (by kernel_rfl) (fun w hS => K.QR.k (v := .pointer (some ⟨r_93, 0, none⟩)) (by kernel_rfl)) (hS.pick [3, 5]) ?_
           refine K.DW.q 20 (by kernel_rfl) rfl rfl (by kernel_rfl) (by kernel_rfl) (fun w hS => K.QR.k (v := .pointer (some ⟨r_93, 8, none⟩)) (by kernel_rfl)) (hS.pick [3, 5]) ?_
           refine K.DW.q 21 (by kernel_rfl) rfl rfl (by kernel_rfl) (by kernel_rfl) (fun w hS => K.QR.ld1 (v := .bool (((stepE c ((lns c).toNat) x M).1).moved)) rfl rfl (by kernel_rfl) ((hS.blk 0 rfl h_149).cell rfl)) (hS.pick [3, 5]) ?_
           refine K.DW.l 17 rfl (by kernel_rfl) (by kernel_rfl) (K.OW.gcall hS [0] [1, 2, 3, 4, 5, 6, 7, 8] [.pointer w_92] (machMoved_ok _ _ ((stepE c ((lns c).toNat) x M).1) _ _ _ _ h_132) ?_)
           clear hS; rintro _ _ w ⟨rfl, rfl⟩ hS
           replace hS : K.Sat w0 [g_130, l_131, l_148, g_147, gl_12, g_103, g_5, g_2, fr] w := hS
           refine ⟨.inl (hS.pick [3, 5]), ?_⟩
           cases hb_153 : ((stepE c ((lns c).toNat) x M).1).moved
           ·
            refine K.DW.l 22 rfl (by kernel_rfl) (by kernel_rfl) (K.OW.q rfl (K.QR.k (v := .bool false) (by kernel_rfl)) ?_)
            refine ⟨.inl (hS.pick [3, 5]), ?_⟩
            refine K.DW.l 23 rfl (by kernel_rfl) rfl (K.OW.q rfl (K.QR.k (v := .bool false) (by kernel_rfl)) ?_)
            refine ⟨.inl (hS.pick [3, 5]), ?_⟩
            refine K.DW.done (by kernel_rfl) ?_
            refine K.t (K.f (K.k ?_))
            refine K.blk_normal ?_
            refine K.t (K.g (K.q [.int .i64 ((j : Nat) : Int)] ?_))
            refine K.a (K.QR.n64 ((((j : Nat) : Int) : Int) + (1 : Int)) ((j + 1 : Nat) : Int) (by kernel_rfl) (by omega)) ?_
            refine K.q [.int .i64 ((j + 1 : Nat) : Int)] (K.z (K.t ?_))
            refine ⟨_, ?_, j + 1, (stepE c ((lns c).toNat) x M).1, ((stepE c ((lns c).toNat) x M).2), g_130, g_147, l_131, l_148, rfl, ⟨by rfl, by rfl, by rfl, by rfl, by rfl, by rfl, by rfl, by rfl, by rfl, trivial⟩, (by omega), (by assumption), (by assumption), (by assumption), h_132, h_149, x_133, x_150, hS.pick [5, 0, 3, 4, 1, 2, 6, 7, 8]⟩
            omega
           ·
            refine K.DW.l 22 rfl (by kernel_rfl) (by kernel_rfl) (K.OW.q rfl (K.QR.k (v := .bool false) (by kernel_rfl)) ?_)
            refine ⟨.inl (hS.pick [3, 5]), ?_⟩
            refine K.DW.l 23 rfl (by kernel_rfl) rfl (K.OW.q rfl (K.QR.k (v := .bool false) (by kernel_rfl)) ?_)
            refine ⟨.inl (hS.pick [3, 5]), ?_⟩
            refine K.DW.done (by kernel_rfl) ?_
            refine K.t (K.f (K.k ?_))
            refine K.blk_normal ?_
            refine K.t (K.g (K.q [.int .i64 ((j : Nat) : Int)] ?_))
            refine K.a (K.QR.n64 ((((j : Nat) : Int) : Int) + (1 : Int)) ((j + 1 : Nat) : Int) (by kernel_rfl) (by omega)) ?_
            refine K.q [.int .i64 ((j + 1 : Nat) : Int)] (K.z (K.t ?_))
            refine ⟨_, ?_, j + 1, (stepE c ((lns c).toNat) x M).1, ((stepE c ((lns c).toNat) x M).2), g_130, g_147, l_131, l_148, rfl, ⟨by rfl, by rfl, by rfl, by rfl, by rfl, by rfl, by rfl, by rfl, by rfl, trivial⟩, (by omega), (by assumption), (by assumption), (by assumption), h_132, h_149, x_133, x_150, hS.pick [5, 0, 3, 4, 1, 2, 6, 7, 8]⟩
            omega
          ·cases (hb_152.symm.trans (show ((stepE c ((lns c).toNat) x M).1).done = false from hb_151))
         ·
          refine K.KW.gdrawn [0, 5] hS (by kernel_rfl) ?_
          clear hS; intro w hS
          refine K.DW.q 0 (by kernel_rfl) rfl rfl (by kernel_rfl) rfl (fun w hS => K.QR.k (v := .pointer (some ⟨p_8, 0, none⟩)) (by kernel_rfl)) (hS.pick [0, 5]) ?_
          refine K.DW.l 1 rfl (by kernel_rfl) rfl (K.OW.q rfl (K.QR.k (v := .pointer (some ⟨r_10, 0, none⟩)) (by kernel_rfl)) ?_)
          refine ⟨.inl (hS.pick [0, 5]), ?_⟩
          refine K.DW.l 2 rfl (by kernel_rfl) rfl (K.OW.gcall hS [4, 1] [0, 2, 3, 5, 6, 7, 8] [.pointer (some ⟨p_8, 0, none⟩), .pointer (some ⟨r_10, 0, none⟩)] (same7_ok _ _ _ _ _ _ _ _ _ _ x_133 x_150) ?_)
          clear hS; rintro _ _ w ⟨rfl, rfl⟩ hS
          replace hS : K.Sat w0 [l_131, l_148, g_147, g_130, gl_12, g_103, g_5, g_2, fr] w := hS
          refine ⟨.inl (hS.pick [2, 5]), ?_⟩
          refine K.DW.l 3 rfl (by kernel_rfl) rfl (K.OW.q rfl (K.QR.k (v := .bool false) (by kernel_rfl)) ?_)
          refine ⟨.inl (hS.pick [2, 5]), ?_⟩
          refine K.DW.l 4 rfl (by kernel_rfl) rfl (K.OW.q rfl (K.QR.k (v := .bool false) (by kernel_rfl)) ?_)
          refine ⟨.inl (hS.pick [2, 5]), ?_⟩
          refine K.DW.q 5 (by kernel_rfl) rfl rfl (by kernel_rfl) (by kernel_rfl) (fun w hS => K.QR.ldN [.pointer u_90, .pointer v_91, .pointer w_92] rfl rfl (by kernel_rfl) (by kernel_rfl) (K.cells (K.cl ((hS.blk 1 rfl hg_104).cell rfl) (K.cl ((hS.blk 1 rfl hg_104).cell rfl) (K.cl ((hS.blk 1 rfl hg_104).cell rfl) K.cl0))))) (hS.pick [2, 5]) ?_
          refine K.DW.q 7 (by kernel_rfl) rfl rfl (by kernel_rfl) (by kernel_rfl) (fun w hS => K.QR.k (v := .pointer (some ⟨r_93, 0, none⟩)) (by kernel_rfl)) (hS.pick [2, 5]) ?_
          refine K.DW.q 8 (by kernel_rfl) rfl rfl (by kernel_rfl) (by kernel_rfl) (fun w hS => K.QR.k (v := .pointer (some ⟨r_93, 0, none⟩)) (by kernel_rfl)) (hS.pick [2, 5]) ?_
          refine K.DW.q 9 (by kernel_rfl) rfl rfl (by kernel_rfl) (by kernel_rfl) (fun w hS => K.QR.k (v := .pointer (some ⟨r_93, 6, none⟩)) (by kernel_rfl)) (hS.pick [2, 5]) ?_
          refine K.DW.q 10 (by kernel_rfl) rfl rfl (by kernel_rfl) (by kernel_rfl) (fun w hS => K.QR.ld1 (v := .int .i64 (lineE ((stepE c ((lns c).toNat) x M).1))) rfl rfl (by kernel_rfl) ((hS.blk 0 rfl h_149).cell rfl)) (hS.pick [2, 5]) ?_
          refine K.DW.q 11 (by kernel_rfl) rfl rfl (by kernel_rfl) (by kernel_rfl) (fun w hS => K.QR.nice (v := .bool (((lineE ((stepE c ((lns c).toNat) x M).1)) : Int) == (0 : Int))) (by kernel_rfl) (congrArg Value.bool (beq_iff_eq.2 (lineE_t hb_151)))) (hS.pick [2, 5]) ?_
          refine K.DW.l 6 rfl (by kernel_rfl) (by kernel_rfl) (K.OW.gcall hS [3] [0, 1, 2, 4, 5, 6, 7, 8] [.agg #[.pointer u_90, .pointer v_91, .pointer w_92]] (machDone_ok _ _ ((stepE c ((lns c).toNat) x M).1) _ _ _ _ h_132) ?_)
          clear hS; rintro _ _ w ⟨rfl, rfl⟩ hS
          replace hS : K.Sat w0 [g_130, l_131, l_148, g_147, gl_12, g_103, g_5, g_2, fr] w := hS
          refine ⟨.inl (hS.pick [3, 5]), ?_⟩
          cases hb_154 : ((stepE c ((lns c).toNat) x M).1).done
          ·cases (hb_154.symm.trans (show ((stepE c ((lns c).toNat) x M).1).done = true from hb_151))
          ·
           refine K.DW.l 12 rfl (by kernel_rfl) (by kernel_rfl) (K.OW.q rfl (K.QR.k (v := .bool false) (by kernel_rfl)) ?_)
           refine ⟨.inl (hS.pick [3, 5]), ?_⟩
           refine K.DW.l 13 rfl (by kernel_rfl) rfl (K.OW.q rfl (K.QR.k (v := .bool false) (by kernel_rfl)) ?_)
           refine ⟨.inl (hS.pick [3, 5]), ?_⟩
           refine K.DW.l 14 rfl (by kernel_rfl) rfl (K.OW.q rfl (K.QR.k (v := .bool false) (by kernel_rfl)) ?_)
           refine ⟨.inl (hS.pick [3, 5]), ?_⟩
           refine K.DW.q 15 (by kernel_rfl) rfl rfl (by kernel_rfl) (by kernel_rfl) (fun w hS => K.QR.k (v := .pointer (some ⟨r_100, 2, none⟩)) (by kernel_rfl)) (hS.pick [3, 5]) ?_
           refine K.DW.q 16 (by kernel_rfl) rfl rfl (by kernel_rfl) (by kernel_rfl) (fun w hS => K.QR.ld1 (v := .pointer w_92) rfl rfl (by kernel_rfl) ((hS.blk 1 rfl hg_104).cell rfl)) (hS.pick [3, 5]) ?_
           refine K.DW.q 18 (by kernel_rfl) rfl rfl (by kernel_rfl) (by kernel_rfl) (fun w hS => K.QR.k (v := .pointer (some ⟨r_93, 0, none⟩)) (by kernel_rfl)) (hS.pick [3, 5]) ?_
           refine K.DW.q 19 (by kernel_rfl) rfl rfl (by kernel_rfl) (by kernel_rfl) (fun w hS => K.QR.k (v := .pointer (some ⟨r_93, 0, none⟩)) (by kernel_rfl)) (hS.pick [3, 5]) ?_
           refine K.DW.q 20 (by kernel_rfl) rfl rfl (by kernel_rfl) (by kernel_rfl) (fun w hS => K.QR.k (v := .pointer (some ⟨r_93, 8, none⟩)) (by kernel_rfl)) (hS.pick [3, 5]) ?_
           refine K.DW.q 21 (by kernel_rfl) rfl rfl (by kernel_rfl) (by kernel_rfl) (fun w hS => K.QR.ld1 (v := .bool (((stepE c ((lns c).toNat) x M).1).moved)) rfl rfl (by kernel_rfl) ((hS.blk 0 rfl h_149).cell rfl)) (hS.pick [3, 5]) ?_
           refine K.DW.l 17 rfl (by kernel_rfl) (by kernel_rfl) (K.OW.gcall hS [0] [1, 2, 3, 4, 5, 6, 7, 8] [.pointer w_92] (machMoved_ok _ _ ((stepE c ((lns c).toNat) x M).1) _ _ _ _ h_132) ?_)
           clear hS; rintro _ _ w ⟨rfl, rfl⟩ hS
           replace hS : K.Sat w0 [g_130, l_131, l_148, g_147, gl_12, g_103, g_5, g_2, fr] w := hS
           refine ⟨.inl (hS.pick [3, 5]), ?_⟩
           cases hb_155 : ((stepE c ((lns c).toNat) x M).1).moved
           ·
            refine K.DW.l 22 rfl (by kernel_rfl) (by kernel_rfl) (K.OW.q rfl (K.QR.k (v := .bool false) (by kernel_rfl)) ?_)
            refine ⟨.inl (hS.pick [3, 5]), ?_⟩
            refine K.DW.l 23 rfl (by kernel_rfl) rfl (K.OW.q rfl (K.QR.k (v := .bool false) (by kernel_rfl)) ?_)
            refine ⟨.inl (hS.pick [3, 5]), ?_⟩
            refine K.DW.done (by kernel_rfl) ?_
            refine K.t (K.f (K.k ?_))
            refine K.blk_normal ?_
            refine K.t (K.g (K.q [.int .i64 ((j : Nat) : Int)] ?_))
            refine K.a (K.QR.n64 ((((j : Nat) : Int) : Int) + (1 : Int)) ((j + 1 : Nat) : Int) (by kernel_rfl) (by omega)) ?_
            refine K.q [.int .i64 ((j + 1 : Nat) : Int)] (K.z (K.t ?_))
            refine ⟨_, ?_, j + 1, (stepE c ((lns c).toNat) x M).1, ((stepE c ((lns c).toNat) x M).2), g_130, g_147, l_131, l_148, rfl, ⟨by rfl, by rfl, by rfl, by rfl, by rfl, by rfl, by rfl, by rfl, by rfl, trivial⟩, (by omega), (by assumption), (by assumption), (by assumption), h_132, h_149, x_133, x_150, hS.pick [5, 0, 3, 4, 1, 2, 6, 7, 8]⟩
            omega
           ·
            refine K.DW.l 22 rfl (by kernel_rfl) (by kernel_rfl) (K.OW.q rfl (K.QR.k (v := .bool false) (by kernel_rfl)) ?_)
            refine ⟨.inl (hS.pick [3, 5]), ?_⟩
            refine K.DW.l 23 rfl (by kernel_rfl) rfl (K.OW.q rfl (K.QR.k (v := .bool false) (by kernel_rfl)) ?_)
            refine ⟨.inl (hS.pick [3, 5]), ?_⟩
            refine K.DW.done (by kernel_rfl) ?_
            refine K.t (K.f (K.k ?_))
            refine K.blk_normal ?_
            refine K.t (K.g (K.q [.int .i64 ((j : Nat) : Int)] ?_))
            refine K.a (K.QR.n64 ((((j : Nat) : Int) : Int) + (1 : Int)) ((j + 1 : Nat) : Int) (by kernel_rfl) (by omega)) ?_
            refine K.q [.int .i64 ((j + 1 : Nat) : Int)] (K.z (K.t ?_))
            refine ⟨_, ?_, j + 1, (stepE c ((lns c).toNat) x M).1, ((stepE c ((lns c).toNat) x M).2), g_130, g_147, l_131, l_148, rfl, ⟨by rfl, by rfl, by rfl, by rfl, by rfl, by rfl, by rfl, by rfl, by rfl, trivial⟩, (by omega), (by assumption), (by assumption), (by assumption), h_132, h_149, x_133, x_150, hS.pick [5, 0, 3, 4, 1, 2, 6, 7, 8]⟩
            omega
      ·
       refine K.x ((((j : Nat) : Int) : Int) < (((ls.length : Nat) : Int) : Int)) h_116 ?_
       refine K.z (K.t (K.f ?_))
       refine K.KW.exit ?_
       refine K.thn_exit ?_
       refine K.thn_exit ?_
       refine K.blk_hit ?_
       refine K.t (K.s (K.g ?_))
       refine K.l (K.OW.gcall hS [] [0, 1, 2, 3, 4, 5, 6, 7, 8] [] (awake10_ok _) ?_)
       clear hS; rintro _ _ w ⟨rfl, rfl⟩ hS
       replace hS : K.Sat w0 [g_103, g1, h1, gl_12, l1, m1, g_5, g_2, fr] w := hS
       refine K.q [.bool true] (K.z (K.t (K.r ?_)))
       refine ⟨.inr rfl, rfl, (.bool true), K.res1 rfl rfl, [], ?_, hS.pick [8]⟩
       exact rfl
    ·
     refine K.yn (k0 : Int) (1 : Int) h_89 ?_
     refine K.q [.bool true] (K.z (K.t (K.h (K.g (K.q [.int .i64 2] (K.z (K.t (K.s (K.g (K.q [.pointer (some ⟨b_7, 0, none⟩), .pointer (some ⟨r_1, 0, none⟩)] ?_))))))))))
     refine K.a (K.QR.ldN [.int .i64 c.th, .int .i64 c.sl, .int .i64 c.lo, .int .i64 c.bu] rfl rfl (by kernel_rfl) (by kernel_rfl) (K.cells (K.cl ((hS.blk 4 rfl hg_3).cell rfl) (K.cl ((hS.blk 4 rfl hg_3).cell rfl) (K.cl ((hS.blk 4 rfl hg_3).cell rfl) (K.cl ((hS.blk 4 rfl hg_3).cell rfl) K.cl0)))))) ?_
     refine K.q [.int .i64 2] ?_
     refine K.a (K.QR.ixA 1 1 rfl rfl rfl Tryz.underlying27 (by kernel_rfl) (by omega) (by first | rfl | simp)) ?_
     refine K.d (.int .i64 tt) ((hS.blk 3 rfl hg_6).cell rfl) ?_
     refine K.l (K.OW.gcall hS [] [0, 1, 2, 3, 4, 5] [.pointer (some ⟨b_7, 0, none⟩), .agg #[.int .i64 c.th, .int .i64 c.sl, .int .i64 c.lo, .int .i64 c.bu], .int .i64 2, .int .i64 tt] (made_ad _ _ c tt (by omega)) ?_)
     clear hS; rintro _ _ w ⟨u_156, v_157, w_158, r_159, g_160, g2_161, rfl, rfl, h_162, h2_163⟩ hS
     replace hS : K.Sat w0 [g_160, g2_161, gl_12, l_13, m_14, g_5, g_2, fr] w := hS
     have hx_164 : (newE 2 tt).good := newE_good (by omega)
     have hnd_165 := newE_done 2 tt
     replace h2_163 : g2_161 = rmachPt r_159 c (newE 2 tt) := h2_163
     have hn0 := newE_no 2 tt
     refine K.q [.tuple #[.agg #[.pointer u_156, .pointer v_157, .pointer w_158], .pointer (some ⟨r_159, 0, none⟩)], .agg #[.pointer u_156, .pointer v_157, .pointer w_158], .pointer (some ⟨r_159, 0, none⟩)] ?_
     refine K.l (K.OW.gnew 39 [.pointer none, .pointer none, .pointer none] hS ?_)
     clear hS; intro w r_166 g_167 hg_168 hS
     refine K.l (K.OW.gst 0 [.pointer u_156, .pointer v_157, .pointer w_158] [.pointer u_156, .pointer v_157, .pointer w_158] hS hg_168 ?_)
     clear hS; intro w g_169 hg_170 hS
     replace hS : K.Sat w0 [g_169, g_160, g2_161, gl_12, l_13, m_14, g_5, g_2, fr] w := hS
     refine K.q [.pointer (some ⟨r_159, 0, none⟩)] (K.z (K.t (K.s (K.s (K.g (K.q [.int .i64 0] (K.z (K.t ?_))))))))
     refine K.KW.block ?_
     refine K.KW.loop (fun m_ F_ w_ => ∃ (j : Nat) (x : MachE) (M : MemM) (g1 : K.Cs) (h1 : K.Cs) (l1 : K.Cs) (m1 : K.Cs), m_ = ls.length - j ∧ K.Sl F_ [(0, .agg #[.int .i64 c.th, .int .i64 c.sl, .int .i64 c.lo, .int .i64 c.bu, .slice pa ps.length cp]), (1, .agg #[.int .i64 k0, .int .i64 tt]), (2, .slice b ls.length cap2), (8, .pointer (some ⟨p_8, 0, none⟩)), (9, .pointer (some ⟨r_10, 0, none⟩)), (12, .pointer (some ⟨r_166, 0, none⟩)), (13, .pointer (some ⟨r_159, 0, none⟩)), (14, .int .i64 ((j : Nat) : Int)), (112, undef)] ∧ j ≤ ls.length ∧ x.good ∧ x ≠ .no ∧ M.good ∧ MachEl b_7 x u_156 v_157 w_158 g1 ∧ h1 = [K.pt r_159 51 [.int .i64 c.th, .int .i64 c.sl, .int .i64 c.lo, .int .i64 c.bu, .int .i64 (tE x), .int .i64 (kindE x), .int .i64 (lineE x), .int .u64 (nowE x), .bool x.moved]] ∧ MemAt l1 p_8 q_9 ((lns c).toNat) (c.th.toNat) M ∧ RMemAt m1 r_10 u_11 ((lns c).toNat) (c.th.toNat) M ∧ K.Sat w0 [g_169, g1, h1, gl_12, l1, m1, g_5, g_2, fr] w_) ((fun (j : Nat) (x : MachE) (M : MemM) => ls.length - j) 0 (newE 2 tt) (groundM ((lns c).toNat) (c.th.toNat) (2 + c.th + c.sl).toNat ps)) ?_ ?_
     ·
      exact ⟨0, (newE 2 tt), (groundM ((lns c).toNat) (c.th.toNat) (2 + c.th + c.sl).toNat ps), g_160, g2_161, l_13, m_14, rfl, ⟨by rfl, by rfl, by rfl, by rfl, by rfl, by rfl, by rfl, by rfl, by rfl, trivial⟩, (by omega), (by assumption), (hn0), (hM), h_162, h2_163, x_16, y_17, hS.pick [0, 1, 2, 3, 4, 5, 6, 7, 8]⟩
     ·
      clear hS
      intro m_171 F_172 w hI
      obtain ⟨j, x, M, g1, h1, l1, m1, rfl, sl_173, p_174, p_175, p_176, p_177, x_178, x_179, x_180, x_181, hS⟩ := hI
      rw [← K.Sl.puts sl_173]; clear sl_173
      refine K.s (K.s (K.g (K.q [.int .i64 ((j : Nat) : Int), .slice b ls.length cap2] ?_)))
      refine K.a (K.QR.len (P := Tryz.prog) rfl rfl Tryz.underlying28) ?_
      by_cases h_182 : (((j : Nat) : Int) : Int) < (((ls.length : Nat) : Int) : Int)
      ·
       refine K.y ((((j : Nat) : Int) : Int) < (((ls.length : Nat) : Int) : Int)) h_182 ?_
       refine K.z (K.t (K.h (K.k (K.t (K.s ?_)))))
       refine K.KW.block ?_
       refine K.s (K.s ?_)
       obtain ⟨b_183, of_184, rfl, _⟩ := hy.at_ (by omega)
       refine K.g (K.q [.slice (some ⟨b_183, of_184, none⟩) ls.length cap2, .int .i64 ((j : Nat) : Int)] ?_)
       refine K.a (K.QR.ix (of_184 + j * 6) 6 rfl rfl rfl Tryz.underlying28 (by kernel_rfl) (by omega) (by first | (simp; done) | omega | (simp; omega))) ?_
       refine K.q [.pointer (some ⟨b_183, of_184 + j * 6, none⟩)] ?_
       refine K.d (.bool ((ls.getD j pk0).step)) ((hy.no hS.chg).ld j (by omega) 0 _ rfl) ?_
       cases hb_185 : (ls.getD j pk0).step
       ·
        refine K.z (K.t (K.f (K.s (K.g (K.q [.pointer (some ⟨p_8, 0, none⟩), .slice (some ⟨b_183, of_184, none⟩) ls.length cap2, .int .i64 ((j : Nat) : Int)] ?_)))))
        refine K.a (K.QR.ix (of_184 + j * 6) 6 rfl rfl rfl Tryz.underlying28 (by kernel_rfl) (by omega) (by first | (simp; done) | omega | (simp; omega))) ?_
        refine K.q [.pointer (some ⟨b_183, of_184 + j * 6 + 1, none⟩)] ?_
        refine K.a (K.QR.ldN [.int .i64 ((ls.getD j pk0).act.kind), .int .i64 ((ls.getD j pk0).act.thread), .int .i64 ((ls.getD j pk0).act.at_), .int .u64 ((ls.getD j pk0).act.old), .int .u64 ((ls.getD j pk0).act.w)] rfl rfl (by kernel_rfl) (by kernel_rfl) (K.cells (K.cl ((hy.no hS.chg).ld j (by omega) 1 _ rfl) (K.cl ((hy.no hS.chg).ld j (by omega) 2 _ rfl) (K.cl ((hy.no hS.chg).ld j (by omega) 3 _ rfl) (K.cl ((hy.no hS.chg).ld j (by omega) 4 _ rfl) (K.cl ((hy.no hS.chg).ld j (by omega) 5 _ rfl) K.cl0))))))) ?_
        refine K.l (K.OW.gcall hS [4] [0, 1, 2, 3, 5, 6, 7, 8] [.pointer (some ⟨p_8, 0, none⟩), .agg #[.int .i64 ((ls.getD j pk0).act.kind), .int .i64 ((ls.getD j pk0).act.thread), .int .i64 ((ls.getD j pk0).act.at_), .int .u64 ((ls.getD j pk0).act.old), .int .u64 ((ls.getD j pk0).act.w)]] (do7_ok _ _ _ _ _ _ _ x_180 (ls.getD j pk0).act (hk j (by omega)).1) ?_)
        clear hS; rintro _ _ w ⟨l_186, rfl, rfl, x_187⟩ hS
        replace hS : K.Sat w0 [l_186, g_169, g1, h1, gl_12, m1, g_5, g_2, fr] w := hS
        have hM_188 : (act7 M ((lns c).toNat) (c.th.toNat) (ls.getD j pk0).act).good := act7_good (by assumption) (hk j (by omega)).2
        refine K.z (K.t (K.g (K.q [.pointer (some ⟨r_10, 0, none⟩), .slice (some ⟨b_183, of_184, none⟩) ls.length cap2, .int .i64 ((j : Nat) : Int)] ?_)))
        refine K.a (K.QR.ix (of_184 + j * 6) 6 rfl rfl rfl Tryz.underlying28 (by kernel_rfl) (by omega) (by first | (simp; done) | omega | (simp; omega))) ?_
        refine K.q [.pointer (some ⟨b_183, of_184 + j * 6 + 1, none⟩)] ?_
        refine K.a (K.QR.ldN [.int .i64 ((ls.getD j pk0).act.kind), .int .i64 ((ls.getD j pk0).act.thread), .int .i64 ((ls.getD j pk0).act.at_), .int .u64 ((ls.getD j pk0).act.old), .int .u64 ((ls.getD j pk0).act.w)] rfl rfl (by kernel_rfl) (by kernel_rfl) (K.cells (K.cl ((hy.no hS.chg).ld j (by omega) 1 _ rfl) (K.cl ((hy.no hS.chg).ld j (by omega) 2 _ rfl) (K.cl ((hy.no hS.chg).ld j (by omega) 3 _ rfl) (K.cl ((hy.no hS.chg).ld j (by omega) 4 _ rfl) (K.cl ((hy.no hS.chg).ld j (by omega) 5 _ rfl) K.cl0))))))) ?_
        refine K.l (K.OW.gcall hS [5] [0, 1, 2, 3, 4, 6, 7, 8] [.pointer (some ⟨r_10, 0, none⟩), .agg #[.int .i64 ((ls.getD j pk0).act.kind), .int .i64 ((ls.getD j pk0).act.thread), .int .i64 ((ls.getD j pk0).act.at_), .int .u64 ((ls.getD j pk0).act.old), .int .u64 ((ls.getD j pk0).act.w)]] (must7_ok _ _ _ _ _ _ _ x_181 (ls.getD j pk0).act (hk j (by omega)).1) ?_)
        clear hS; rintro _ _ w ⟨l_189, rfl, rfl, x_190⟩ hS
        replace hS : K.Sat w0 [l_189, l_186, g_169, g1, h1, gl_12, g_5, g_2, fr] w := hS
        refine K.z (K.t (K.s ?_))
        cases hb_191 : x.done
        ·
         refine K.KW.gdrawn [2, 4] hS (by kernel_rfl) ?_
         clear hS; intro w hS
         refine K.DW.q 0 (by kernel_rfl) rfl rfl (by kernel_rfl) rfl (fun w hS => K.QR.k (v := .pointer (some ⟨p_8, 0, none⟩)) (by kernel_rfl)) (hS.pick [2, 4]) ?_
         refine K.DW.l 1 rfl (by kernel_rfl) rfl (K.OW.q rfl (K.QR.k (v := .pointer (some ⟨r_10, 0, none⟩)) (by kernel_rfl)) ?_)
         refine ⟨.inl (hS.pick [2, 4]), ?_⟩
         refine K.DW.l 2 rfl (by kernel_rfl) rfl (K.OW.gcall hS [1, 0] [2, 3, 4, 5, 6, 7, 8] [.pointer (some ⟨p_8, 0, none⟩), .pointer (some ⟨r_10, 0, none⟩)] (same7_ok _ _ _ _ _ _ _ _ _ _ x_187 x_190) ?_)
         clear hS; rintro _ _ w ⟨rfl, rfl⟩ hS
         replace hS : K.Sat w0 [l_186, l_189, g_169, g1, h1, gl_12, g_5, g_2, fr] w := hS
         refine ⟨.inl (hS.pick [2, 4]), ?_⟩
         refine K.DW.l 3 rfl (by kernel_rfl) rfl (K.OW.q rfl (K.QR.k (v := .bool false) (by kernel_rfl)) ?_)
         refine ⟨.inl (hS.pick [2, 4]), ?_⟩
         refine K.DW.l 4 rfl (by kernel_rfl) rfl (K.OW.q rfl (K.QR.k (v := .bool false) (by kernel_rfl)) ?_)
         refine ⟨.inl (hS.pick [2, 4]), ?_⟩
         refine K.DW.q 5 (by kernel_rfl) rfl rfl (by kernel_rfl) (by kernel_rfl) (fun w hS => K.QR.ldN [.pointer u_156, .pointer v_157, .pointer w_158] rfl rfl (by kernel_rfl) (by kernel_rfl) (K.cells (K.cl ((hS.blk 0 rfl hg_170).cell rfl) (K.cl ((hS.blk 0 rfl hg_170).cell rfl) (K.cl ((hS.blk 0 rfl hg_170).cell rfl) K.cl0))))) (hS.pick [2, 4]) ?_
         refine K.DW.q 7 (by kernel_rfl) rfl rfl (by kernel_rfl) (by kernel_rfl) (fun w hS => K.QR.k (v := .pointer (some ⟨r_159, 0, none⟩)) (by kernel_rfl)) (hS.pick [2, 4]) ?_
         refine K.DW.q 8 (by kernel_rfl) rfl rfl (by kernel_rfl) (by kernel_rfl) (fun w hS => K.QR.k (v := .pointer (some ⟨r_159, 0, none⟩)) (by kernel_rfl)) (hS.pick [2, 4]) ?_
         refine K.DW.q 9 (by kernel_rfl) rfl rfl (by kernel_rfl) (by kernel_rfl) (fun w hS => K.QR.k (v := .pointer (some ⟨r_159, 6, none⟩)) (by kernel_rfl)) (hS.pick [2, 4]) ?_
         refine K.DW.q 10 (by kernel_rfl) rfl rfl (by kernel_rfl) (by kernel_rfl) (fun w hS => K.QR.ld1 (v := .int .i64 (lineE x)) rfl rfl (by kernel_rfl) ((hS.blk 1 rfl x_179).cell rfl)) (hS.pick [2, 4]) ?_
         refine K.DW.q 11 (by kernel_rfl) rfl rfl (by kernel_rfl) (by kernel_rfl) (fun w hS => K.QR.nice (v := .bool (((lineE x) : Int) == (0 : Int))) (by kernel_rfl) (congrArg Value.bool (beq_eq_false_iff_ne.2 (lineE_f hb_191 (by assumption))))) (hS.pick [2, 4]) ?_
         refine K.DW.l 6 rfl (by kernel_rfl) (by kernel_rfl) (K.OW.gcall hS [3] [0, 1, 2, 4, 5, 6, 7, 8] [.agg #[.pointer u_156, .pointer v_157, .pointer w_158]] (machDone_ok _ _ x _ _ _ _ x_178) ?_)
         clear hS; rintro _ _ w ⟨rfl, rfl⟩ hS
         replace hS : K.Sat w0 [g1, l_186, l_189, g_169, h1, gl_12, g_5, g_2, fr] w := hS
         refine ⟨.inl (hS.pick [3, 4]), ?_⟩
         cases hb_192 : x.done
         ·
          refine K.DW.l 12 rfl (by kernel_rfl) (by kernel_rfl) (K.OW.q rfl (K.QR.k (v := .bool false) (by kernel_rfl)) ?_)
          refine ⟨.inl (hS.pick [3, 4]), ?_⟩
          refine K.DW.l 13 rfl (by kernel_rfl) rfl (K.OW.q rfl (K.QR.k (v := .bool false) (by kernel_rfl)) ?_)
          refine ⟨.inl (hS.pick [3, 4]), ?_⟩
          refine K.DW.l 14 rfl (by kernel_rfl) rfl (K.OW.q rfl (K.QR.k (v := .bool false) (by kernel_rfl)) ?_)
          refine ⟨.inl (hS.pick [3, 4]), ?_⟩
          refine K.DW.q 15 (by kernel_rfl) rfl rfl (by kernel_rfl) (by kernel_rfl) (fun w hS => K.QR.k (v := .pointer (some ⟨r_166, 2, none⟩)) (by kernel_rfl)) (hS.pick [3, 4]) ?_
          refine K.DW.q 16 (by kernel_rfl) rfl rfl (by kernel_rfl) (by kernel_rfl) (fun w hS => K.QR.ld1 (v := .pointer w_158) rfl rfl (by kernel_rfl) ((hS.blk 0 rfl hg_170).cell rfl)) (hS.pick [3, 4]) ?_
          refine K.DW.q 18 (by kernel_rfl) rfl rfl (by kernel_rfl) (by kernel_rfl) (fun w hS => K.QR.k (v := .pointer (some ⟨r_159, 0, none⟩)) (by kernel_rfl)) (hS.pick [3, 4]) ?_
          refine K.DW.q 19 (by kernel_rfl) rfl rfl (by kernel_rfl) (by kernel_rfl) (fun w hS => K.QR.k (v := .pointer (some ⟨r_159, 0, none⟩)) (by kernel_rfl)) (hS.pick [3, 4]) ?_
          refine K.DW.q 20 (by kernel_rfl) rfl rfl (by kernel_rfl) (by kernel_rfl) (fun w hS => K.QR.k (v := .pointer (some ⟨r_159, 8, none⟩)) (by kernel_rfl)) (hS.pick [3, 4]) ?_
          refine K.DW.q 21 (by kernel_rfl) rfl rfl (by kernel_rfl) (by kernel_rfl) (fun w hS => K.QR.ld1 (v := .bool x.moved) rfl rfl (by kernel_rfl) ((hS.blk 1 rfl x_179).cell rfl)) (hS.pick [3, 4]) ?_
          refine K.DW.l 17 rfl (by kernel_rfl) (by kernel_rfl) (K.OW.gcall hS [0] [1, 2, 3, 4, 5, 6, 7, 8] [.pointer w_158] (machMoved_ok _ _ x _ _ _ _ x_178) ?_)
          clear hS; rintro _ _ w ⟨rfl, rfl⟩ hS
          replace hS : K.Sat w0 [g1, l_186, l_189, g_169, h1, gl_12, g_5, g_2, fr] w := hS
          refine ⟨.inl (hS.pick [3, 4]), ?_⟩
          cases hb_193 : x.moved
          ·
           refine K.DW.l 22 rfl (by kernel_rfl) (by kernel_rfl) (K.OW.q rfl (K.QR.k (v := .bool false) (by kernel_rfl)) ?_)
           refine ⟨.inl (hS.pick [3, 4]), ?_⟩
           refine K.DW.l 23 rfl (by kernel_rfl) rfl (K.OW.q rfl (K.QR.k (v := .bool false) (by kernel_rfl)) ?_)
           refine ⟨.inl (hS.pick [3, 4]), ?_⟩
           refine K.DW.done (by kernel_rfl) ?_
           refine K.t (K.f (K.k ?_))
           refine K.blk_normal ?_
           refine K.t (K.g (K.q [.int .i64 ((j : Nat) : Int)] ?_))
           refine K.a (K.QR.n64 ((((j : Nat) : Int) : Int) + (1 : Int)) ((j + 1 : Nat) : Int) (by kernel_rfl) (by omega)) ?_
           refine K.q [.int .i64 ((j + 1 : Nat) : Int)] (K.z (K.t ?_))
           refine ⟨_, ?_, j + 1, x, (act7 M ((lns c).toNat) (c.th.toNat) (ls.getD j pk0).act), g1, h1, l_186, l_189, rfl, ⟨by rfl, by rfl, by rfl, by rfl, by rfl, by rfl, by rfl, by rfl, by rfl, trivial⟩, (by omega), (by assumption), (by assumption), (by assumption), x_178, x_179, x_187, x_190, hS.pick [3, 0, 4, 5, 1, 2, 6, 7, 8]⟩
           omega
          ·
           refine K.DW.l 22 rfl (by kernel_rfl) (by kernel_rfl) (K.OW.q rfl (K.QR.k (v := .bool false) (by kernel_rfl)) ?_)
           refine ⟨.inl (hS.pick [3, 4]), ?_⟩
           refine K.DW.l 23 rfl (by kernel_rfl) rfl (K.OW.q rfl (K.QR.k (v := .bool false) (by kernel_rfl)) ?_)
           refine ⟨.inl (hS.pick [3, 4]), ?_⟩
           refine K.DW.done (by kernel_rfl) ?_
           refine K.t (K.f (K.k ?_))
           refine K.blk_normal ?_
           refine K.t (K.g (K.q [.int .i64 ((j : Nat) : Int)] ?_))
           refine K.a (K.QR.n64 ((((j : Nat) : Int) : Int) + (1 : Int)) ((j + 1 : Nat) : Int) (by kernel_rfl) (by omega)) ?_
           refine K.q [.int .i64 ((j + 1 : Nat) : Int)] (K.z (K.t ?_))
           refine ⟨_, ?_, j + 1, x, (act7 M ((lns c).toNat) (c.th.toNat) (ls.getD j pk0).act), g1, h1, l_186, l_189, rfl, ⟨by rfl, by rfl, by rfl, by rfl, by rfl, by rfl, by rfl, by rfl, by rfl, trivial⟩, (by omega), (by assumption), (by assumption), (by assumption), x_178, x_179, x_187, x_190, hS.pick [3, 0, 4, 5, 1, 2, 6, 7, 8]⟩
           omega
         ·cases (hb_192.symm.trans (show x.done = false from hb_191))
        ·
         refine K.KW.gdrawn [2, 4] hS (by kernel_rfl) ?_
         clear hS; intro w hS
         refine K.DW.q 0 (by kernel_rfl) rfl rfl (by kernel_rfl) rfl (fun w hS => K.QR.k (v := .pointer (some ⟨p_8, 0, none⟩)) (by kernel_rfl)) (hS.pick [2, 4]) ?_
         refine K.DW.l 1 rfl (by kernel_rfl) rfl (K.OW.q rfl (K.QR.k (v := .pointer (some ⟨r_10, 0, none⟩)) (by kernel_rfl)) ?_)
         refine ⟨.inl (hS.pick [2, 4]), ?_⟩
         refine K.DW.l 2 rfl (by kernel_rfl) rfl (K.OW.gcall hS [1, 0] [2, 3, 4, 5, 6, 7, 8] [.pointer (some ⟨p_8, 0, none⟩), .pointer (some ⟨r_10, 0, none⟩)] (same7_ok _ _ _ _ _ _ _ _ _ _ x_187 x_190) ?_)
         clear hS; rintro _ _ w ⟨rfl, rfl⟩ hS
         replace hS : K.Sat w0 [l_186, l_189, g_169, g1, h1, gl_12, g_5, g_2, fr] w := hS
         refine ⟨.inl (hS.pick [2, 4]), ?_⟩
         refine K.DW.l 3 rfl (by kernel_rfl) rfl (K.OW.q rfl (K.QR.k (v := .bool false) (by kernel_rfl)) ?_)
         refine ⟨.inl (hS.pick [2, 4]), ?_⟩
         refine K.DW.l 4 rfl (by kernel_rfl) rfl (K.OW.q rfl (K.QR.k (v := .bool false) (by kernel_rfl)) ?_)
         refine ⟨.inl (hS.pick [2, 4]), ?_⟩
         refine K.DW.q 5 (by kernel_rfl) rfl rfl (by kernel_rfl) (by kernel_rfl) (fun w hS => K.QR.ldN [.pointer u_156, .pointer v_157, .pointer w_158] rfl rfl (by kernel_rfl) (by kernel_rfl) (K.cells (K.cl ((hS.blk 0 rfl hg_170).cell rfl) (K.cl ((hS.blk 0 rfl hg_170).cell rfl) (K.cl ((hS.blk 0 rfl hg_170).cell rfl) K.cl0))))) (hS.pick [2, 4]) ?_
         refine K.DW.q 7 (by kernel_rfl) rfl rfl (by kernel_rfl) (by kernel_rfl) (fun w hS => K.QR.k (v := .pointer (some ⟨r_159, 0, none⟩)) (by kernel_rfl)) (hS.pick [2, 4]) ?_
         refine K.DW.q 8 (by kernel_rfl) rfl rfl (by kernel_rfl) (by kernel_rfl) (fun w hS => K.QR.k (v := .pointer (some ⟨r_159, 0, none⟩)) (by kernel_rfl)) (hS.pick [2, 4]) ?_
         refine K.DW.q 9 (by kernel_rfl) rfl rfl (by kernel_rfl) (by kernel_rfl) (fun w hS => K.QR.k (v := .pointer (some ⟨r_159, 6, none⟩)) (by kernel_rfl)) (hS.pick [2, 4]) ?_
         refine K.DW.q 10 (by kernel_rfl) rfl rfl (by kernel_rfl) (by kernel_rfl) (fun w hS => K.QR.ld1 (v := .int .i64 (lineE x)) rfl rfl (by kernel_rfl) ((hS.blk 1 rfl x_179).cell rfl)) (hS.pick [2, 4]) ?_
         refine K.DW.q 11 (by kernel_rfl) rfl rfl (by kernel_rfl) (by kernel_rfl) (fun w hS => K.QR.nice (v := .bool (((lineE x) : Int) == (0 : Int))) (by kernel_rfl) (congrArg Value.bool (beq_iff_eq.2 (lineE_t hb_191)))) (hS.pick [2, 4]) ?_
         refine K.DW.l 6 rfl (by kernel_rfl) (by kernel_rfl) (K.OW.gcall hS [3] [0, 1, 2, 4, 5, 6, 7, 8] [.agg #[.pointer u_156, .pointer v_157, .pointer w_158]] (machDone_ok _ _ x _ _ _ _ x_178) ?_)
         clear hS; rintro _ _ w ⟨rfl, rfl⟩ hS
         replace hS : K.Sat w0 [g1, l_186, l_189, g_169, h1, gl_12, g_5, g_2, fr] w := hS
         refine ⟨.inl (hS.pick [3, 4]), ?_⟩
         cases hb_194 : x.done
         ·cases (hb_194.symm.trans (show x.done = true from hb_191))
         ·
          refine K.DW.l 12 rfl (by kernel_rfl) (by kernel_rfl) (K.OW.q rfl (K.QR.k (v := .bool false) (by kernel_rfl)) ?_)
          refine ⟨.inl (hS.pick [3, 4]), ?_⟩
          refine K.DW.l 13 rfl (by kernel_rfl) rfl (K.OW.q rfl (K.QR.k (v := .bool false) (by kernel_rfl)) ?_)
          refine ⟨.inl (hS.pick [3, 4]), ?_⟩
          refine K.DW.l 14 rfl (by kernel_rfl) rfl (K.OW.q rfl (K.QR.k (v := .bool false) (by kernel_rfl)) ?_)
          refine ⟨.inl (hS.pick [3, 4]), ?_⟩
          refine K.DW.q 15 (by kernel_rfl) rfl rfl (by kernel_rfl) (by kernel_rfl) (fun w hS => K.QR.k (v := .pointer (some ⟨r_166, 2, none⟩)) (by kernel_rfl)) (hS.pick [3, 4]) ?_
          refine K.DW.q 16 (by kernel_rfl) rfl rfl (by kernel_rfl) (by kernel_rfl) (fun w hS => K.QR.ld1 (v := .pointer w_158) rfl rfl (by kernel_rfl) ((hS.blk 0 rfl hg_170).cell rfl)) (hS.pick [3, 4]) ?_
          refine K.DW.q 18 (by kernel_rfl) rfl rfl (by kernel_rfl) (by kernel_rfl) (fun w hS => K.QR.k (v := .pointer (some ⟨r_159, 0, none⟩)) (by kernel_rfl)) (hS.pick [3, 4]) ?_
          refine K.DW.q 19 (by kernel_rfl) rfl rfl (by kernel_rfl) (by kernel_rfl) (fun w hS => K.QR.k (v := .pointer (some ⟨r_159, 0, none⟩)) (by kernel_rfl)) (hS.pick [3, 4]) ?_
          refine K.DW.q 20 (by kernel_rfl) rfl rfl (by kernel_rfl) (by kernel_rfl) (fun w hS => K.QR.k (v := .pointer (some ⟨r_159, 8, none⟩)) (by kernel_rfl)) (hS.pick [3, 4]) ?_
          refine K.DW.q 21 (by kernel_rfl) rfl rfl (by kernel_rfl) (by kernel_rfl) (fun w hS => K.QR.ld1 (v := .bool x.moved) rfl rfl (by kernel_rfl) ((hS.blk 1 rfl x_179).cell rfl)) (hS.pick [3, 4]) ?_
          refine K.DW.l 17 rfl (by kernel_rfl) (by kernel_rfl) (K.OW.gcall hS [0] [1, 2, 3, 4, 5, 6, 7, 8] [.pointer w_158] (machMoved_ok _ _ x _ _ _ _ x_178) ?_)
          clear hS; rintro _ _ w ⟨rfl, rfl⟩ hS
          replace hS : K.Sat w0 [g1, l_186, l_189, g_169, h1, gl_12, g_5, g_2, fr] w := hS
          refine ⟨.inl (hS.pick [3, 4]), ?_⟩
          cases hb_195 : x.moved
          ·
           refine K.DW.l 22 rfl (by kernel_rfl) (by kernel_rfl) (K.OW.q rfl (K.QR.k (v := .bool false) (by kernel_rfl)) ?_)
           refine ⟨.inl (hS.pick [3, 4]), ?_⟩
           refine K.DW.l 23 rfl (by kernel_rfl) rfl (K.OW.q rfl (K.QR.k (v := .bool false) (by kernel_rfl)) ?_)
           refine ⟨.inl (hS.pick [3, 4]), ?_⟩
           refine K.DW.done (by kernel_rfl) ?_
           refine K.t (K.f (K.k ?_))
           refine K.blk_normal ?_
           refine K.t (K.g (K.q [.int .i64 ((j : Nat) : Int)] ?_))
           refine K.a (K.QR.n64 ((((j : Nat) : Int) : Int) + (1 : Int)) ((j + 1 : Nat) : Int) (by kernel_rfl) (by omega)) ?_
           refine K.q [.int .i64 ((j + 1 : Nat) : Int)] (K.z (K.t ?_))
           refine ⟨_, ?_, j + 1, x, (act7 M ((lns c).toNat) (c.th.toNat) (ls.getD j pk0).act), g1, h1, l_186, l_189, rfl, ⟨by rfl, by rfl, by rfl, by rfl, by rfl, by rfl, by rfl, by rfl, by rfl, trivial⟩, (by omega), (by assumption), (by assumption), (by assumption), x_178, x_179, x_187, x_190, hS.pick [3, 0, 4, 5, 1, 2, 6, 7, 8]⟩
           omega
          ·
           refine K.DW.l 22 rfl (by kernel_rfl) (by kernel_rfl) (K.OW.q rfl (K.QR.k (v := .bool false) (by kernel_rfl)) ?_)
           refine ⟨.inl (hS.pick [3, 4]), ?_⟩
           refine K.DW.l 23 rfl (by kernel_rfl) rfl (K.OW.q rfl (K.QR.k (v := .bool false) (by kernel_rfl)) ?_)
           refine ⟨.inl (hS.pick [3, 4]), ?_⟩
           refine K.DW.done (by kernel_rfl) ?_
           refine K.t (K.f (K.k ?_))
           refine K.blk_normal ?_
           refine K.t (K.g (K.q [.int .i64 ((j : Nat) : Int)] ?_))
           refine K.a (K.QR.n64 ((((j : Nat) : Int) : Int) + (1 : Int)) ((j + 1 : Nat) : Int) (by kernel_rfl) (by omega)) ?_
           refine K.q [.int .i64 ((j + 1 : Nat) : Int)] (K.z (K.t ?_))
           refine ⟨_, ?_, j + 1, x, (act7 M ((lns c).toNat) (c.th.toNat) (ls.getD j pk0).act), g1, h1, l_186, l_189, rfl, ⟨by rfl, by rfl, by rfl, by rfl, by rfl, by rfl, by rfl, by rfl, by rfl, trivial⟩, (by omega), (by assumption), (by assumption), (by assumption), x_178, x_179, x_187, x_190, hS.pick [3, 0, 4, 5, 1, 2, 6, 7, 8]⟩
           omega
       ·
        refine K.z (K.t (K.h (K.s (K.g ?_))))
        refine K.a (K.QR.ldN [.pointer u_156, .pointer v_157, .pointer w_158] rfl rfl (by kernel_rfl) (by kernel_rfl) (K.cells (K.cl ((hS.blk 0 rfl hg_170).cell rfl) (K.cl ((hS.blk 0 rfl hg_170).cell rfl) (K.cl ((hS.blk 0 rfl hg_170).cell rfl) K.cl0))))) ?_
        refine K.q [.pointer (some ⟨p_8, 0, none⟩)] ?_
        refine K.l (K.OW.gcall hS [1, 3, 4] [0, 2, 5, 6, 7, 8] [.agg #[.pointer u_156, .pointer v_157, .pointer w_158], .pointer (some ⟨p_8, 0, none⟩)] (machStep2_ok _ _ _ _ _ _ c (by first | assumption | (unfold cfgOk; decide)) x M _ _ _ _ _ _ x_178 hl_15 x_180 (by assumption) (by assumption) (by assumption)) ?_)
        clear hS; rintro _ _ w ⟨g_196, l_197, rfl, rfl, h_198, x_199⟩ hS
        replace hS : K.Sat w0 [g_196, gl_12, l_197, g_169, h1, m1, g_5, g_2, fr] w := hS
        obtain ⟨hx_200, hM_201⟩ := (stepE_good (by first | assumption | (unfold cfgOk; decide)) (by assumption) (by assumption) : (stepE c ((lns c).toNat) x M).1.good ∧ (stepE c ((lns c).toNat) x M).2.good)
        have hn_202 : (stepE c ((lns c).toNat) x M).1 ≠ MachE.no := stepE_no (by assumption)
        cases hb_203 : (stepE c ((lns c).toNat) x M).1.done
        ·
         refine K.q [.bool false] (K.z (K.t (K.s (K.g (K.q [.pointer (some ⟨r_159, 0, none⟩), .pointer (some ⟨r_10, 0, none⟩)] ?_)))))
         refine K.l (K.OW.gcall hS [4, 5] [0, 1, 2, 3, 6, 7, 8] [.pointer (some ⟨r_159, 0, none⟩), .pointer (some ⟨r_10, 0, none⟩)] (rmachStep_ok _ _ _ _ _ _ c (by first | assumption | (unfold cfgOk; decide)) x M _ _ (by assumption) x_179 x_181 (by assumption) (by assumption)) ?_)
         clear hS; rintro _ _ w ⟨g_204, l_205, rfl, rfl, h_206, x_207⟩ hS
         replace hS : K.Sat w0 [g_204, l_205, g_196, gl_12, l_197, g_169, g_5, g_2, fr] w := hS
         refine K.z (K.t (K.s (K.g (K.q [.bool false, .pointer (some ⟨r_159, 0, none⟩), .pointer (some ⟨r_159, 0, none⟩), .pointer (some ⟨r_159, 6, none⟩)] ?_))))
         refine K.d (.int .i64 (lineE ((stepE c ((lns c).toNat) x M).1))) ((hS.blk 0 rfl h_206).cell rfl) ?_
         refine K.xe ((lineE ((stepE c ((lns c).toNat) x M).1)) : Int) (0 : Int) (lineE_f hb_203 (by assumption)) ?_
         refine K.q [.bool false] (K.z (K.t (K.f (K.k (K.t (K.s ?_))))))
         cases hb_208 : ((stepE c ((lns c).toNat) x M).1).done
         ·
          refine K.KW.gdrawn [0, 5] hS (by kernel_rfl) ?_
          clear hS; intro w hS
          refine K.DW.q 0 (by kernel_rfl) rfl rfl (by kernel_rfl) rfl (fun w hS => K.QR.k (v := .pointer (some ⟨p_8, 0, none⟩)) (by kernel_rfl)) (hS.pick [0, 5]) ?_
          refine K.DW.l 1 rfl (by kernel_rfl) rfl (K.OW.q rfl (K.QR.k (v := .pointer (some ⟨r_10, 0, none⟩)) (by kernel_rfl)) ?_)
          refine ⟨.inl (hS.pick [0, 5]), ?_⟩
          refine K.DW.l 2 rfl (by kernel_rfl) rfl (K.OW.gcall hS [4, 1] [0, 2, 3, 5, 6, 7, 8] [.pointer (some ⟨p_8, 0, none⟩), .pointer (some ⟨r_10, 0, none⟩)] (same7_ok _ _ _ _ _ _ _ _ _ _ x_199 x_207) ?_)
          clear hS; rintro _ _ w ⟨rfl, rfl⟩ hS
          replace hS : K.Sat w0 [l_197, l_205, g_204, g_196, gl_12, g_169, g_5, g_2, fr] w := hS
          refine ⟨.inl (hS.pick [2, 5]), ?_⟩
          refine K.DW.l 3 rfl (by kernel_rfl) rfl (K.OW.q rfl (K.QR.k (v := .bool false) (by kernel_rfl)) ?_)
          refine ⟨.inl (hS.pick [2, 5]), ?_⟩
          refine K.DW.l 4 rfl (by kernel_rfl) rfl (K.OW.q rfl (K.QR.k (v := .bool false) (by kernel_rfl)) ?_)
          refine ⟨.inl (hS.pick [2, 5]), ?_⟩
          refine K.DW.q 5 (by kernel_rfl) rfl rfl (by kernel_rfl) (by kernel_rfl) (fun w hS => K.QR.ldN [.pointer u_156, .pointer v_157, .pointer w_158] rfl rfl (by kernel_rfl) (by kernel_rfl) (K.cells (K.cl ((hS.blk 1 rfl hg_170).cell rfl) (K.cl ((hS.blk 1 rfl hg_170).cell rfl) (K.cl ((hS.blk 1 rfl hg_170).cell rfl) K.cl0))))) (hS.pick [2, 5]) ?_
          refine K.DW.q 7 (by kernel_rfl) rfl rfl (by kernel_rfl) (by kernel_rfl) (fun w hS => K.QR.k (v := .pointer (some ⟨r_159, 0, none⟩)) (by kernel_rfl)) (hS.pick [2, 5]) ?_
          refine K.DW.q 8 (by kernel_rfl) rfl rfl (by kernel_rfl) (by kernel_rfl) (fun w hS => K.QR.k (v := .pointer (some ⟨r_159, 0, none⟩)) (by kernel_rfl)) (hS.pick [2, 5]) ?_
          refine K.DW.q 9 (by kernel_rfl) rfl rfl (by kernel_rfl) (by kernel_rfl) (fun w hS => K.QR.k (v := .pointer (some ⟨r_159, 6, none⟩)) (by kernel_rfl)) (hS.pick [2, 5]) ?_
          refine K.DW.q 10 (by kernel_rfl) rfl rfl (by kernel_rfl) (by kernel_rfl) (fun w hS => K.QR.ld1 (v := .int .i64 (lineE ((stepE c ((lns c).toNat) x M).1))) rfl rfl (by kernel_rfl) ((hS.blk 0 rfl h_206).cell rfl)) (hS.pick [2, 5]) ?_
          refine K.DW.q 11 (by kernel_rfl) rfl rfl (by kernel_rfl) (by kernel_rfl) (fun w hS => K.QR.nice (v := .bool (((lineE ((stepE c ((lns c).toNat) x M).1)) : Int) == (0 : Int))) (by kernel_rfl) (congrArg Value.bool (beq_eq_false_iff_ne.2 (lineE_f hb_208 (by assumption))))) (hS.pick [2, 5]) ?_
          refine K.DW.l 6 rfl (by kernel_rfl) (by kernel_rfl) (K.OW.gcall hS [3] [0, 1, 2, 4, 5, 6, 7, 8] [.agg #[.pointer u_156, .pointer v_157, .pointer w_158]] (machDone_ok _ _ ((stepE c ((lns c).toNat) x M).1) _ _ _ _ h_198) ?_)
          clear hS; rintro _ _ w ⟨rfl, rfl⟩ hS
          replace hS : K.Sat w0 [g_196, l_197, l_205, g_204, gl_12, g_169, g_5, g_2, fr] w := hS
          refine ⟨.inl (hS.pick [3, 5]), ?_⟩
          cases hb_209 : ((stepE c ((lns c).toNat) x M).1).done
          ·
           refine K.DW.l 12 rfl (by kernel_rfl) (by kernel_rfl) (K.OW.q rfl (K.QR.k (v := .bool false) (by kernel_rfl)) ?_)
           refine ⟨.inl (hS.pick [3, 5]), ?_⟩
           refine K.DW.l 13 rfl (by kernel_rfl) rfl (K.OW.q rfl (K.QR.k (v := .bool false) (by kernel_rfl)) ?_)
           refine ⟨.inl (hS.pick [3, 5]), ?_⟩
           refine K.DW.l 14 rfl (by kernel_rfl) rfl (K.OW.q rfl (K.QR.k (v := .bool false) (by kernel_rfl)) ?_)
           refine ⟨.inl (hS.pick [3, 5]), ?_⟩
           refine K.DW.q 15 (by kernel_rfl) rfl rfl (by kernel_rfl) (by kernel_rfl) (fun w hS => K.QR.k (v := .pointer (some ⟨r_166, 2, none⟩)) (by kernel_rfl)) (hS.pick [3, 5]) ?_
           refine K.DW.q 16 (by kernel_rfl) rfl rfl (by kernel_rfl) (by kernel_rfl) (fun w hS => K.QR.ld1 (v := .pointer w_158) rfl rfl (by kernel_rfl) ((hS.blk 1 rfl hg_170).cell rfl)) (hS.pick [3, 5]) ?_
           refine K.DW.q 18 (by kernel_rfl) rfl rfl (by kernel_rfl) (by kernel_rfl) (fun w hS => K.QR.k (v := .pointer (some ⟨r_159, 0, none⟩)) (by kernel_rfl)) (hS.pick [3, 5]) ?_
           refine K.DW.q 19 (by kernel_rfl) rfl rfl (by kernel_rfl) (by kernel_rfl) (fun w hS => K.QR.k (v := .pointer (some ⟨r_159, 0, none⟩)) (by kernel_rfl)) (hS.pick [3, 5]) ?_
           refine K.DW.q 20 (by kernel_rfl) rfl rfl (by kernel_rfl) (by kernel_rfl) (fun w hS => K.QR.k (v := .pointer (some ⟨r_159, 8, none⟩)) (by kernel_rfl)) (hS.pick [3, 5]) ?_
           refine K.DW.q 21 (by kernel_rfl) rfl rfl (by kernel_rfl) (by kernel_rfl) (fun w hS => K.QR.ld1 (v := .bool (((stepE c ((lns c).toNat) x M).1).moved)) rfl rfl (by kernel_rfl) ((hS.blk 0 rfl h_206).cell rfl)) (hS.pick [3, 5]) ?_
           refine K.DW.l 17 rfl (by kernel_rfl) (by kernel_rfl) (K.OW.gcall hS [0] [1, 2, 3, 4, 5, 6, 7, 8] [.pointer w_158] (machMoved_ok _ _ ((stepE c ((lns c).toNat) x M).1) _ _ _ _ h_198) ?_)
           clear hS; rintro _ _ w ⟨rfl, rfl⟩ hS
           replace hS : K.Sat w0 [g_196, l_197, l_205, g_204, gl_12, g_169, g_5, g_2, fr] w := hS
           refine ⟨.inl (hS.pick [3, 5]), ?_⟩
           cases hb_210 : ((stepE c ((lns c).toNat) x M).1).moved
           ·
            refine K.DW.l 22 rfl (by kernel_rfl) (by kernel_rfl) (K.OW.q rfl (K.QR.k (v := .bool false) (by kernel_rfl)) ?_)
            refine ⟨.inl (hS.pick [3, 5]), ?_⟩
            refine K.DW.l 23 rfl (by kernel_rfl) rfl (K.OW.q rfl (K.QR.k (v := .bool false) (by kernel_rfl)) ?_)
            refine ⟨.inl (hS.pick [3, 5]), ?_⟩
            refine K.DW.done (by kernel_rfl) ?_
            refine K.t (K.f (K.k ?_))
            refine K.blk_normal ?_
            refine K.t (K.g (K.q [.int .i64 ((j : Nat) : Int)] ?_))
            refine K.a (K.QR.n64 ((((j : Nat) : Int) : Int) + (1 : Int)) ((j + 1 : Nat) : Int) (by kernel_rfl) (by omega)) ?_
            refine K.q [.int .i64 ((j + 1 : Nat) : Int)] (K.z (K.t ?_))
            refine ⟨_, ?_, j + 1, (stepE c ((lns c).toNat) x M).1, ((stepE c ((lns c).toNat) x M).2), g_196, g_204, l_197, l_205, rfl, ⟨by rfl, by rfl, by rfl, by rfl, by rfl, by rfl, by rfl, by rfl, by rfl, trivial⟩, (by omega), (by assumption), (by assumption), (by assumption), h_198, h_206, x_199, x_207, hS.pick [5, 0, 3, 4, 1, 2, 6, 7, 8]⟩
            omega
           ·
            refine K.DW.l 22 rfl (by kernel_rfl) (by kernel_rfl) (K.OW.q rfl (K.QR.k (v := .bool false) (by kernel_rfl)) ?_)
            refine ⟨.inl (hS.pick [3, 5]), ?_⟩
            refine K.DW.l 23 rfl (by kernel_rfl) rfl (K.OW.q rfl (K.QR.k (v := .bool false) (by kernel_rfl)) ?_)
            refine ⟨.inl (hS.pick [3, 5]), ?_⟩
            refine K.DW.done (by kernel_rfl) ?_
            refine K.t (K.f (K.k ?_))
            refine K.blk_normal ?_
            refine K.t (K.g (K.q [.int .i64 ((j : Nat) : Int)] ?_))
            refine K.a (K.QR.n64 ((((j : Nat) : Int) : Int) + (1 : Int)) ((j + 1 : Nat) : Int) (by kernel_rfl) (by omega)) ?_
            refine K.q [.int .i64 ((j + 1 : Nat) : Int)] (K.z (K.t ?_))
            refine ⟨_, ?_, j + 1, (stepE c ((lns c).toNat) x M).1, ((stepE c ((lns c).toNat) x M).2), g_196, g_204, l_197, l_205, rfl, ⟨by rfl, by rfl, by rfl, by rfl, by rfl, by rfl, by rfl, by rfl, by rfl, trivial⟩, (by omega), (by assumption), (by assumption), (by assumption), h_198, h_206, x_199, x_207, hS.pick [5, 0, 3, 4, 1, 2, 6, 7, 8]⟩
            omega
          ·cases (hb_209.symm.trans (show ((stepE c ((lns c).toNat) x M).1).done = false from hb_208))
         ·
          refine K.KW.gdrawn [0, 5] hS (by kernel_rfl) ?_
          clear hS; intro w hS
          refine K.DW.q 0 (by kernel_rfl) rfl rfl (by kernel_rfl) rfl (fun w hS => K.QR.k (v := .pointer (some ⟨p_8, 0, none⟩)) (by kernel_rfl)) (hS.pick [0, 5]) ?_
          refine K.DW.l 1 rfl (by kernel_rfl) rfl (K.OW.q rfl (K.QR.k (v := .pointer (some ⟨r_10, 0, none⟩)) (by kernel_rfl)) ?_)
          refine ⟨.inl (hS.pick [0, 5]), ?_⟩
          refine K.DW.l 2 rfl (by kernel_rfl) rfl (K.OW.gcall hS [4, 1] [0, 2, 3, 5, 6, 7, 8] [.pointer (some ⟨p_8, 0, none⟩), .pointer (some ⟨r_10, 0, none⟩)] (same7_ok _ _ _ _ _ _ _ _ _ _ x_199 x_207) ?_)
          clear hS; rintro _ _ w ⟨rfl, rfl⟩ hS
          replace hS : K.Sat w0 [l_197, l_205, g_204, g_196, gl_12, g_169, g_5, g_2, fr] w := hS
          refine ⟨.inl (hS.pick [2, 5]), ?_⟩
          refine K.DW.l 3 rfl (by kernel_rfl) rfl (K.OW.q rfl (K.QR.k (v := .bool false) (by kernel_rfl)) ?_)
          refine ⟨.inl (hS.pick [2, 5]), ?_⟩
          refine K.DW.l 4 rfl (by kernel_rfl) rfl (K.OW.q rfl (K.QR.k (v := .bool false) (by kernel_rfl)) ?_)
          refine ⟨.inl (hS.pick [2, 5]), ?_⟩
          refine K.DW.q 5 (by kernel_rfl) rfl rfl (by kernel_rfl) (by kernel_rfl) (fun w hS => K.QR.ldN [.pointer u_156, .pointer v_157, .pointer w_158] rfl rfl (by kernel_rfl) (by kernel_rfl) (K.cells (K.cl ((hS.blk 1 rfl hg_170).cell rfl) (K.cl ((hS.blk 1 rfl hg_170).cell rfl) (K.cl ((hS.blk 1 rfl hg_170).cell rfl) K.cl0))))) (hS.pick [2, 5]) ?_
          refine K.DW.q 7 (by kernel_rfl) rfl rfl (by kernel_rfl) (by kernel_rfl) (fun w hS => K.QR.k (v := .pointer (some ⟨r_159, 0, none⟩)) (by kernel_rfl)) (hS.pick [2, 5]) ?_
          refine K.DW.q 8 (by kernel_rfl) rfl rfl (by kernel_rfl) (by kernel_rfl) (fun w hS => K.QR.k (v := .pointer (some ⟨r_159, 0, none⟩)) (by kernel_rfl)) (hS.pick [2, 5]) ?_
          refine K.DW.q 9 (by kernel_rfl) rfl rfl (by kernel_rfl) (by kernel_rfl) (fun w hS => K.QR.k (v := .pointer (some ⟨r_159, 6, none⟩)) (by kernel_rfl)) (hS.pick [2, 5]) ?_
          refine K.DW.q 10 (by kernel_rfl) rfl rfl (by kernel_rfl) (by kernel_rfl) (fun w hS => K.QR.ld1 (v := .int .i64 (lineE ((stepE c ((lns c).toNat) x M).1))) rfl rfl (by kernel_rfl) ((hS.blk 0 rfl h_206).cell rfl)) (hS.pick [2, 5]) ?_
          refine K.DW.q 11 (by kernel_rfl) rfl rfl (by kernel_rfl) (by kernel_rfl) (fun w hS => K.QR.nice (v := .bool (((lineE ((stepE c ((lns c).toNat) x M).1)) : Int) == (0 : Int))) (by kernel_rfl) (congrArg Value.bool (beq_iff_eq.2 (lineE_t hb_208)))) (hS.pick [2, 5]) ?_
          refine K.DW.l 6 rfl (by kernel_rfl) (by kernel_rfl) (K.OW.gcall hS [3] [0, 1, 2, 4, 5, 6, 7, 8] [.agg #[.pointer u_156, .pointer v_157, .pointer w_158]] (machDone_ok _ _ ((stepE c ((lns c).toNat) x M).1) _ _ _ _ h_198) ?_)
          clear hS; rintro _ _ w ⟨rfl, rfl⟩ hS
          replace hS : K.Sat w0 [g_196, l_197, l_205, g_204, gl_12, g_169, g_5, g_2, fr] w := hS
          refine ⟨.inl (hS.pick [3, 5]), ?_⟩
          cases hb_211 : ((stepE c ((lns c).toNat) x M).1).done
          ·cases (hb_211.symm.trans (show ((stepE c ((lns c).toNat) x M).1).done = true from hb_208))
          ·
           refine K.DW.l 12 rfl (by kernel_rfl) (by kernel_rfl) (K.OW.q rfl (K.QR.k (v := .bool false) (by kernel_rfl)) ?_)
           refine ⟨.inl (hS.pick [3, 5]), ?_⟩
           refine K.DW.l 13 rfl (by kernel_rfl) rfl (K.OW.q rfl (K.QR.k (v := .bool false) (by kernel_rfl)) ?_)
           refine ⟨.inl (hS.pick [3, 5]), ?_⟩
           refine K.DW.l 14 rfl (by kernel_rfl) rfl (K.OW.q rfl (K.QR.k (v := .bool false) (by kernel_rfl)) ?_)
           refine ⟨.inl (hS.pick [3, 5]), ?_⟩
           refine K.DW.q 15 (by kernel_rfl) rfl rfl (by kernel_rfl) (by kernel_rfl) (fun w hS => K.QR.k (v := .pointer (some ⟨r_166, 2, none⟩)) (by kernel_rfl)) (hS.pick [3, 5]) ?_
           refine K.DW.q 16 (by kernel_rfl) rfl rfl (by kernel_rfl) (by kernel_rfl) (fun w hS => K.QR.ld1 (v := .pointer w_158) rfl rfl (by kernel_rfl) ((hS.blk 1 rfl hg_170).cell rfl)) (hS.pick [3, 5]) ?_
           refine K.DW.q 18 (by kernel_rfl) rfl rfl (by kernel_rfl) (by kernel_rfl) (fun w hS => K.QR.k (v := .pointer (some ⟨r_159, 0, none⟩)) (by kernel_rfl)) (hS.pick [3, 5]) ?_
           refine K.DW.q 19 (by kernel_rfl) rfl rfl (by kernel_rfl) (by kernel_rfl) (fun w hS => K.QR.k (v := .pointer (some ⟨r_159, 0, none⟩)) (by kernel_rfl)) (hS.pick [3, 5]) ?_
           refine K.DW.q 20 (by kernel_rfl) rfl rfl (by kernel_rfl) (by kernel_rfl) (fun w hS => K.QR.k (v := .pointer (some ⟨r_159, 8, none⟩)) (by kernel_rfl)) (hS.pick [3, 5]) ?_
           refine K.DW.q 21 (by kernel_rfl) rfl rfl (by kernel_rfl) (by kernel_rfl) (fun w hS => K.QR.ld1 (v := .bool (((stepE c ((lns c).toNat) x M).1).moved)) rfl rfl (by kernel_rfl) ((hS.blk 0 rfl h_206).cell rfl)) (hS.pick [3, 5]) ?_
           refine K.DW.l 17 rfl (by kernel_rfl) (by kernel_rfl) (K.OW.gcall hS [0] [1, 2, 3, 4, 5, 6, 7, 8] [.pointer w_158] (machMoved_ok _ _ ((stepE c ((lns c).toNat) x M).1) _ _ _ _ h_198) ?_)
           clear hS; rintro _ _ w ⟨rfl, rfl⟩ hS
           replace hS : K.Sat w0 [g_196, l_197, l_205, g_204, gl_12, g_169, g_5, g_2, fr] w := hS
           refine ⟨.inl (hS.pick [3, 5]), ?_⟩
           cases hb_212 : ((stepE c ((lns c).toNat) x M).1).moved
           ·
            refine K.DW.l 22 rfl (by kernel_rfl) (by kernel_rfl) (K.OW.q rfl (K.QR.k (v := .bool false) (by kernel_rfl)) ?_)
            refine ⟨.inl (hS.pick [3, 5]), ?_⟩
            refine K.DW.l 23 rfl (by kernel_rfl) rfl (K.OW.q rfl (K.QR.k (v := .bool false) (by kernel_rfl)) ?_)
            refine ⟨.inl (hS.pick [3, 5]), ?_⟩
            refine K.DW.done (by kernel_rfl) ?_
            refine K.t (K.f (K.k ?_))
            refine K.blk_normal ?_
            refine K.t (K.g (K.q [.int .i64 ((j : Nat) : Int)] ?_))
            refine K.a (K.QR.n64 ((((j : Nat) : Int) : Int) + (1 : Int)) ((j + 1 : Nat) : Int) (by kernel_rfl) (by omega)) ?_
            refine K.q [.int .i64 ((j + 1 : Nat) : Int)] (K.z (K.t ?_))
            refine ⟨_, ?_, j + 1, (stepE c ((lns c).toNat) x M).1, ((stepE c ((lns c).toNat) x M).2), g_196, g_204, l_197, l_205, rfl, ⟨by rfl, by rfl, by rfl, by rfl, by rfl, by rfl, by rfl, by rfl, by rfl, trivial⟩, (by omega), (by assumption), (by assumption), (by assumption), h_198, h_206, x_199, x_207, hS.pick [5, 0, 3, 4, 1, 2, 6, 7, 8]⟩
            omega
           ·
            refine K.DW.l 22 rfl (by kernel_rfl) (by kernel_rfl) (K.OW.q rfl (K.QR.k (v := .bool false) (by kernel_rfl)) ?_)
            refine ⟨.inl (hS.pick [3, 5]), ?_⟩
            refine K.DW.l 23 rfl (by kernel_rfl) rfl (K.OW.q rfl (K.QR.k (v := .bool false) (by kernel_rfl)) ?_)
            refine ⟨.inl (hS.pick [3, 5]), ?_⟩
            refine K.DW.done (by kernel_rfl) ?_
            refine K.t (K.f (K.k ?_))
            refine K.blk_normal ?_
            refine K.t (K.g (K.q [.int .i64 ((j : Nat) : Int)] ?_))
            refine K.a (K.QR.n64 ((((j : Nat) : Int) : Int) + (1 : Int)) ((j + 1 : Nat) : Int) (by kernel_rfl) (by omega)) ?_
            refine K.q [.int .i64 ((j + 1 : Nat) : Int)] (K.z (K.t ?_))
            refine ⟨_, ?_, j + 1, (stepE c ((lns c).toNat) x M).1, ((stepE c ((lns c).toNat) x M).2), g_196, g_204, l_197, l_205, rfl, ⟨by rfl, by rfl, by rfl, by rfl, by rfl, by rfl, by rfl, by rfl, by rfl, trivial⟩, (by omega), (by assumption), (by assumption), (by assumption), h_198, h_206, x_199, x_207, hS.pick [5, 0, 3, 4, 1, 2, 6, 7, 8]⟩
            omega
        ·
         refine K.q [.bool true] (K.z (K.t (K.s (K.g (K.q [.pointer (some ⟨r_159, 0, none⟩), .pointer (some ⟨r_10, 0, none⟩)] ?_)))))
         refine K.l (K.OW.gcall hS [4, 5] [0, 1, 2, 3, 6, 7, 8] [.pointer (some ⟨r_159, 0, none⟩), .pointer (some ⟨r_10, 0, none⟩)] (rmachStep_ok _ _ _ _ _ _ c (by first | assumption | (unfold cfgOk; decide)) x M _ _ (by assumption) x_179 x_181 (by assumption) (by assumption)) ?_)
         clear hS; rintro _ _ w ⟨g_213, l_214, rfl, rfl, h_215, x_216⟩ hS
         replace hS : K.Sat w0 [g_213, l_214, g_196, gl_12, l_197, g_169, g_5, g_2, fr] w := hS
         refine K.z (K.t (K.s (K.g (K.q [.bool true, .pointer (some ⟨r_159, 0, none⟩), .pointer (some ⟨r_159, 0, none⟩), .pointer (some ⟨r_159, 6, none⟩)] ?_))))
         refine K.d (.int .i64 (lineE ((stepE c ((lns c).toNat) x M).1))) ((hS.blk 0 rfl h_215).cell rfl) ?_
         refine K.ye ((lineE ((stepE c ((lns c).toNat) x M).1)) : Int) (0 : Int) (lineE_t hb_203) ?_
         refine K.q [.bool false] (K.z (K.t (K.f (K.k (K.t (K.s ?_))))))
         cases hb_217 : ((stepE c ((lns c).toNat) x M).1).done
         ·
          refine K.KW.gdrawn [0, 5] hS (by kernel_rfl) ?_
          clear hS; intro w hS
          refine K.DW.q 0 (by kernel_rfl) rfl rfl (by kernel_rfl) rfl (fun w hS => K.QR.k (v := .pointer (some ⟨p_8, 0, none⟩)) (by kernel_rfl)) (hS.pick [0, 5]) ?_
          refine K.DW.l 1 rfl (by kernel_rfl) rfl (K.OW.q rfl (K.QR.k (v := .pointer (some ⟨r_10, 0, none⟩)) (by kernel_rfl)) ?_)
          refine ⟨.inl (hS.pick [0, 5]), ?_⟩
          refine K.DW.l 2 rfl (by kernel_rfl) rfl (K.OW.gcall hS [4, 1] [0, 2, 3, 5, 6, 7, 8] [.pointer (some ⟨p_8, 0, none⟩), .pointer (some ⟨r_10, 0, none⟩)] (same7_ok _ _ _ _ _ _ _ _ _ _ x_199 x_216) ?_)
          clear hS; rintro _ _ w ⟨rfl, rfl⟩ hS
          replace hS : K.Sat w0 [l_197, l_214, g_213, g_196, gl_12, g_169, g_5, g_2, fr] w := hS
          refine ⟨.inl (hS.pick [2, 5]), ?_⟩
          refine K.DW.l 3 rfl (by kernel_rfl) rfl (K.OW.q rfl (K.QR.k (v := .bool false) (by kernel_rfl)) ?_)
          refine ⟨.inl (hS.pick [2, 5]), ?_⟩
          refine K.DW.l 4 rfl (by kernel_rfl) rfl (K.OW.q rfl (K.QR.k (v := .bool false) (by kernel_rfl)) ?_)
          refine ⟨.inl (hS.pick [2, 5]), ?_⟩
          refine K.DW.q 5 (by kernel_rfl) rfl rfl (by kernel_rfl) (by kernel_rfl) (fun w hS => K.QR.ldN [.pointer u_156, .pointer v_157, .pointer w_158] rfl rfl (by kernel_rfl) (by kernel_rfl) (K.cells (K.cl ((hS.blk 1 rfl hg_170).cell rfl) (K.cl ((hS.blk 1 rfl hg_170).cell rfl) (K.cl ((hS.blk 1 rfl hg_170).cell rfl) K.cl0))))) (hS.pick [2, 5]) ?_
          refine K.DW.q 7 (by kernel_rfl) rfl rfl (by kernel_rfl) (by kernel_rfl) (fun w hS => K.QR.k (v := .pointer (some ⟨r_159, 0, none⟩)) (by kernel_rfl)) (hS.pick [2, 5]) ?_
          refine K.DW.q 8 (by kernel_rfl) rfl rfl (by kernel_rfl) (by kernel_rfl) (fun w hS => K.QR.k (v := .pointer (some ⟨r_159, 0, none⟩)) (by kernel_rfl)) (hS.pick [2, 5]) ?_
          refine K.DW.q 9 (by kernel_rfl) rfl rfl (by kernel_rfl) (by kernel_rfl) (fun w hS => K.QR.k (v := .pointer (some ⟨r_159, 6, none⟩)) (by kernel_rfl)) (hS.pick [2, 5]) ?_
          refine K.DW.q 10 (by kernel_rfl) rfl rfl (by kernel_rfl) (by kernel_rfl) (fun w hS => K.QR.ld1 (v := .int .i64 (lineE ((stepE c ((lns c).toNat) x M).1))) rfl rfl (by kernel_rfl) ((hS.blk 0 rfl h_215).cell rfl)) (hS.pick [2, 5]) ?_
          refine K.DW.q 11 (by kernel_rfl) rfl rfl (by kernel_rfl) (by kernel_rfl) (fun w hS => K.QR.nice (v := .bool (((lineE ((stepE c ((lns c).toNat) x M).1)) : Int) == (0 : Int))) (by kernel_rfl) (congrArg Value.bool (beq_eq_false_iff_ne.2 (lineE_f hb_217 (by assumption))))) (hS.pick [2, 5]) ?_
          refine K.DW.l 6 rfl (by kernel_rfl) (by kernel_rfl) (K.OW.gcall hS [3] [0, 1, 2, 4, 5, 6, 7, 8] [.agg #[.pointer u_156, .pointer v_157, .pointer w_158]] (machDone_ok _ _ ((stepE c ((lns c).toNat) x M).1) _ _ _ _ h_198) ?_)
          clear hS; rintro _ _ w ⟨rfl, rfl⟩ hS
          replace hS : K.Sat w0 [g_196, l_197, l_214, g_213, gl_12, g_169, g_5, g_2, fr] w := hS
          refine ⟨.inl (hS.pick [3, 5]), ?_⟩
          cases hb_218 : ((stepE c ((lns c).toNat) x M).1).done
          ·
           refine K.DW.l 12 rfl (by kernel_rfl) (by kernel_rfl) (K.OW.q rfl (K.QR.k (v := .bool false) (by kernel_rfl)) ?_)
           refine ⟨.inl (hS.pick [3, 5]), ?_⟩
           refine K.DW.l 13 rfl (by kernel_rfl) rfl (K.OW.q rfl (K.QR.k (v := .bool false) (by kernel_rfl)) ?_)
           refine ⟨.inl (hS.pick [3, 5]), ?_⟩
           refine K.DW.l 14 rfl (by kernel_rfl) rfl (K.OW.q rfl (K.QR.k (v := .bool false) (by kernel_rfl)) ?_)
           refine ⟨.inl (hS.pick [3, 5]), ?_⟩
           refine K.DW.q 15 (by kernel_rfl) rfl rfl (by kernel_rfl) (by kernel_rfl) (fun w hS => K.QR.k (v := .pointer (some ⟨r_166, 2, none⟩)) (by kernel_rfl)) (hS.pick [3, 5]) ?_
           refine K.DW.q 16 (by kernel_rfl) rfl rfl (by kernel_rfl) (by kernel_rfl) (fun w hS => K.QR.ld1 (v := .pointer w_158) rfl rfl (by kernel_rfl) ((hS.blk 1 rfl hg_170).cell rfl)) (hS.pick [3, 5]) ?_
           refine K.DW.q 18 (by kernel_rfl) rfl rfl (by kernel_rfl) (by kernel_rfl) (fun w hS => K.QR.k (v := .pointer (some ⟨r_159, 0, none⟩)) (by kernel_rfl)) (hS.pick [3, 5]) ?_
           refine K.DW.q 19 (by kernel_rfl) rfl rfl (by kernel_rfl) (by kernel_rfl) (fun w hS => K.QR.k (v := .pointer (some ⟨r_159, 0, none⟩)) (by kernel_rfl)) (hS.pick [3, 5]) ?_
           refine K.DW.q 20 (by kernel_rfl) rfl rfl (by kernel_rfl) (by kernel_rfl) (fun w hS => K.QR.k (v := .pointer (some ⟨r_159, 8, none⟩)) (by kernel_rfl)) (hS.pick [3, 5]) ?_
           refine K.DW.q 21 (by kernel_rfl) rfl rfl (by kernel_rfl) (by kernel_rfl) (fun w hS => K.QR.ld1 (v := .bool (((stepE c ((lns c).toNat) x M).1).moved)) rfl rfl (by kernel_rfl) ((hS.blk 0 rfl h_215).cell rfl)) (hS.pick [3, 5]) ?_
           refine K.DW.l 17 rfl (by kernel_rfl) (by kernel_rfl) (K.OW.gcall hS [0] [1, 2, 3, 4, 5, 6, 7, 8] [.pointer w_158] (machMoved_ok _ _ ((stepE c ((lns c).toNat) x M).1) _ _ _ _ h_198) ?_)
           clear hS; rintro _ _ w ⟨rfl, rfl⟩ hS
           replace hS : K.Sat w0 [g_196, l_197, l_214, g_213, gl_12, g_169, g_5, g_2, fr] w := hS
           refine ⟨.inl (hS.pick [3, 5]), ?_⟩
           cases hb_219 : ((stepE c ((lns c).toNat) x M).1).moved
           ·
            refine K.DW.l 22 rfl (by kernel_rfl) (by kernel_rfl) (K.OW.q rfl (K.QR.k (v := .bool false) (by kernel_rfl)) ?_)
            refine ⟨.inl (hS.pick [3, 5]), ?_⟩
            refine K.DW.l 23 rfl (by kernel_rfl) rfl (K.OW.q rfl (K.QR.k (v := .bool false) (by kernel_rfl)) ?_)
            refine ⟨.inl (hS.pick [3, 5]), ?_⟩
            refine K.DW.done (by kernel_rfl) ?_
            refine K.t (K.f (K.k ?_))
            refine K.blk_normal ?_
            refine K.t (K.g (K.q [.int .i64 ((j : Nat) : Int)] ?_))
            refine K.a (K.QR.n64 ((((j : Nat) : Int) : Int) + (1 : Int)) ((j + 1 : Nat) : Int) (by kernel_rfl) (by omega)) ?_
            refine K.q [.int .i64 ((j + 1 : Nat) : Int)] (K.z (K.t ?_))
            refine ⟨_, ?_, j + 1, (stepE c ((lns c).toNat) x M).1, ((stepE c ((lns c).toNat) x M).2), g_196, g_213, l_197, l_214, rfl, ⟨by rfl, by rfl, by rfl, by rfl, by rfl, by rfl, by rfl, by rfl, by rfl, trivial⟩, (by omega), (by assumption), (by assumption), (by assumption), h_198, h_215, x_199, x_216, hS.pick [5, 0, 3, 4, 1, 2, 6, 7, 8]⟩
            omega
           ·
            refine K.DW.l 22 rfl (by kernel_rfl) (by kernel_rfl) (K.OW.q rfl (K.QR.k (v := .bool false) (by kernel_rfl)) ?_)
            refine ⟨.inl (hS.pick [3, 5]), ?_⟩
            refine K.DW.l 23 rfl (by kernel_rfl) rfl (K.OW.q rfl (K.QR.k (v := .bool false) (by kernel_rfl)) ?_)
            refine ⟨.inl (hS.pick [3, 5]), ?_⟩
            refine K.DW.done (by kernel_rfl) ?_
            refine K.t (K.f (K.k ?_))
            refine K.blk_normal ?_
            refine K.t (K.g (K.q [.int .i64 ((j : Nat) : Int)] ?_))
            refine K.a (K.QR.n64 ((((j : Nat) : Int) : Int) + (1 : Int)) ((j + 1 : Nat) : Int) (by kernel_rfl) (by omega)) ?_
            refine K.q [.int .i64 ((j + 1 : Nat) : Int)] (K.z (K.t ?_))
            refine ⟨_, ?_, j + 1, (stepE c ((lns c).toNat) x M).1, ((stepE c ((lns c).toNat) x M).2), g_196, g_213, l_197, l_214, rfl, ⟨by rfl, by rfl, by rfl, by rfl, by rfl, by rfl, by rfl, by rfl, by rfl, trivial⟩, (by omega), (by assumption), (by assumption), (by assumption), h_198, h_215, x_199, x_216, hS.pick [5, 0, 3, 4, 1, 2, 6, 7, 8]⟩
            omega
          ·cases (hb_218.symm.trans (show ((stepE c ((lns c).toNat) x M).1).done = false from hb_217))
         ·
          refine K.KW.gdrawn [0, 5] hS (by kernel_rfl) ?_
          clear hS; intro w hS
          refine K.DW.q 0 (by kernel_rfl) rfl rfl (by kernel_rfl) rfl (fun w hS => K.QR.k (v := .pointer (some ⟨p_8, 0, none⟩)) (by kernel_rfl)) (hS.pick [0, 5]) ?_
          refine K.DW.l 1 rfl (by kernel_rfl) rfl (K.OW.q rfl (K.QR.k (v := .pointer (some ⟨r_10, 0, none⟩)) (by kernel_rfl)) ?_)
          refine ⟨.inl (hS.pick [0, 5]), ?_⟩
          refine K.DW.l 2 rfl (by kernel_rfl) rfl (K.OW.gcall hS [4, 1] [0, 2, 3, 5, 6, 7, 8] [.pointer (some ⟨p_8, 0, none⟩), .pointer (some ⟨r_10, 0, none⟩)] (same7_ok _ _ _ _ _ _ _ _ _ _ x_199 x_216) ?_)
          clear hS; rintro _ _ w ⟨rfl, rfl⟩ hS
          replace hS : K.Sat w0 [l_197, l_214, g_213, g_196, gl_12, g_169, g_5, g_2, fr] w := hS
          refine ⟨.inl (hS.pick [2, 5]), ?_⟩
          refine K.DW.l 3 rfl (by kernel_rfl) rfl (K.OW.q rfl (K.QR.k (v := .bool false) (by kernel_rfl)) ?_)
          refine ⟨.inl (hS.pick [2, 5]), ?_⟩
          refine K.DW.l 4 rfl (by kernel_rfl) rfl (K.OW.q rfl (K.QR.k (v := .bool false) (by kernel_rfl)) ?_)
          refine ⟨.inl (hS.pick [2, 5]), ?_⟩
          refine K.DW.q 5 (by kernel_rfl) rfl rfl (by kernel_rfl) (by kernel_rfl) (fun w hS => K.QR.ldN [.pointer u_156, .pointer v_157, .pointer w_158] rfl rfl (by kernel_rfl) (by kernel_rfl) (K.cells (K.cl ((hS.blk 1 rfl hg_170).cell rfl) (K.cl ((hS.blk 1 rfl hg_170).cell rfl) (K.cl ((hS.blk 1 rfl hg_170).cell rfl) K.cl0))))) (hS.pick [2, 5]) ?_
          refine K.DW.q 7 (by kernel_rfl) rfl rfl (by kernel_rfl) (by kernel_rfl) (fun w hS => K.QR.k (v := .pointer (some ⟨r_159, 0, none⟩)) (by kernel_rfl)) (hS.pick [2, 5]) ?_
          refine K.DW.q 8 (by kernel_rfl) rfl rfl (by kernel_rfl) (by kernel_rfl) (fun w hS => K.QR.k (v := .pointer (some ⟨r_159, 0, none⟩)) (by kernel_rfl)) (hS.pick [2, 5]) ?_
          refine K.DW.q 9 (by kernel_rfl) rfl rfl (by kernel_rfl) (by kernel_rfl) (fun w hS => K.QR.k (v := .pointer (some ⟨r_159, 6, none⟩)) (by kernel_rfl)) (hS.pick [2, 5]) ?_
          refine K.DW.q 10 (by kernel_rfl) rfl rfl (by kernel_rfl) (by kernel_rfl) (fun w hS => K.QR.ld1 (v := .int .i64 (lineE ((stepE c ((lns c).toNat) x M).1))) rfl rfl (by kernel_rfl) ((hS.blk 0 rfl h_215).cell rfl)) (hS.pick [2, 5]) ?_
          refine K.DW.q 11 (by kernel_rfl) rfl rfl (by kernel_rfl) (by kernel_rfl) (fun w hS => K.QR.nice (v := .bool (((lineE ((stepE c ((lns c).toNat) x M).1)) : Int) == (0 : Int))) (by kernel_rfl) (congrArg Value.bool (beq_iff_eq.2 (lineE_t hb_217)))) (hS.pick [2, 5]) ?_
          refine K.DW.l 6 rfl (by kernel_rfl) (by kernel_rfl) (K.OW.gcall hS [3] [0, 1, 2, 4, 5, 6, 7, 8] [.agg #[.pointer u_156, .pointer v_157, .pointer w_158]] (machDone_ok _ _ ((stepE c ((lns c).toNat) x M).1) _ _ _ _ h_198) ?_)
          clear hS; rintro _ _ w ⟨rfl, rfl⟩ hS
          replace hS : K.Sat w0 [g_196, l_197, l_214, g_213, gl_12, g_169, g_5, g_2, fr] w := hS
          refine ⟨.inl (hS.pick [3, 5]), ?_⟩
          cases hb_220 : ((stepE c ((lns c).toNat) x M).1).done
          ·cases (hb_220.symm.trans (show ((stepE c ((lns c).toNat) x M).1).done = true from hb_217))
          ·
           refine K.DW.l 12 rfl (by kernel_rfl) (by kernel_rfl) (K.OW.q rfl (K.QR.k (v := .bool false) (by kernel_rfl)) ?_)
           refine ⟨.inl (hS.pick [3, 5]), ?_⟩
           refine K.DW.l 13 rfl (by kernel_rfl) rfl (K.OW.q rfl (K.QR.k (v := .bool false) (by kernel_rfl)) ?_)
           refine ⟨.inl (hS.pick [3, 5]), ?_⟩
           refine K.DW.l 14 rfl (by kernel_rfl) rfl (K.OW.q rfl (K.QR.k (v := .bool false) (by kernel_rfl)) ?_)
           refine ⟨.inl (hS.pick [3, 5]), ?_⟩
           refine K.DW.q 15 (by kernel_rfl) rfl rfl (by kernel_rfl) (by kernel_rfl) (fun w hS => K.QR.k (v := .pointer (some ⟨r_166, 2, none⟩)) (by kernel_rfl)) (hS.pick [3, 5]) ?_
           refine K.DW.q 16 (by kernel_rfl) rfl rfl (by kernel_rfl) (by kernel_rfl) (fun w hS => K.QR.ld1 (v := .pointer w_158) rfl rfl (by kernel_rfl) ((hS.blk 1 rfl hg_170).cell rfl)) (hS.pick [3, 5]) ?_
           refine K.DW.q 18 (by kernel_rfl) rfl rfl (by kernel_rfl) (by kernel_rfl) (fun w hS => K.QR.k (v := .pointer (some ⟨r_159, 0, none⟩)) (by kernel_rfl)) (hS.pick [3, 5]) ?_
           refine K.DW.q 19 (by kernel_rfl) rfl rfl (by kernel_rfl) (by kernel_rfl) (fun w hS => K.QR.k (v := .pointer (some ⟨r_159, 0, none⟩)) (by kernel_rfl)) (hS.pick [3, 5]) ?_
           refine K.DW.q 20 (by kernel_rfl) rfl rfl (by kernel_rfl) (by kernel_rfl) (fun w hS => K.QR.k (v := .pointer (some ⟨r_159, 8, none⟩)) (by kernel_rfl)) (hS.pick [3, 5]) ?_
           refine K.DW.q 21 (by kernel_rfl) rfl rfl (by kernel_rfl) (by kernel_rfl) (fun w hS => K.QR.ld1 (v := .bool (((stepE c ((lns c).toNat) x M).1).moved)) rfl rfl (by kernel_rfl) ((hS.blk 0 rfl h_215).cell rfl)) (hS.pick [3, 5]) ?_
           refine K.DW.l 17 rfl (by kernel_rfl) (by kernel_rfl) (K.OW.gcall hS [0] [1, 2, 3, 4, 5, 6, 7, 8] [.pointer w_158] (machMoved_ok _ _ ((stepE c ((lns c).toNat) x M).1) _ _ _ _ h_198) ?_)
           clear hS; rintro _ _ w ⟨rfl, rfl⟩ hS
           replace hS : K.Sat w0 [g_196, l_197, l_214, g_213, gl_12, g_169, g_5, g_2, fr] w := hS
           refine ⟨.inl (hS.pick [3, 5]), ?_⟩
           cases hb_221 : ((stepE c ((lns c).toNat) x M).1).moved
           ·
            refine K.DW.l 22 rfl (by kernel_rfl) (by kernel_rfl) (K.OW.q rfl (K.QR.k (v := .bool false) (by kernel_rfl)) ?_)
            refine ⟨.inl (hS.pick [3, 5]), ?_⟩
            refine K.DW.l 23 rfl (by kernel_rfl) rfl (K.OW.q rfl (K.QR.k (v := .bool false) (by kernel_rfl)) ?_)
            refine ⟨.inl (hS.pick [3, 5]), ?_⟩
            refine K.DW.done (by kernel_rfl) ?_
            refine K.t (K.f (K.k ?_))
            refine K.blk_normal ?_
            refine K.t (K.g (K.q [.int .i64 ((j : Nat) : Int)] ?_))
            refine K.a (K.QR.n64 ((((j : Nat) : Int) : Int) + (1 : Int)) ((j + 1 : Nat) : Int) (by kernel_rfl) (by omega)) ?_
            refine K.q [.int .i64 ((j + 1 : Nat) : Int)] (K.z (K.t ?_))
            refine ⟨_, ?_, j + 1, (stepE c ((lns c).toNat) x M).1, ((stepE c ((lns c).toNat) x M).2), g_196, g_213, l_197, l_214, rfl, ⟨by rfl, by rfl, by rfl, by rfl, by rfl, by rfl, by rfl, by rfl, by rfl, trivial⟩, (by omega), (by assumption), (by assumption), (by assumption), h_198, h_215, x_199, x_216, hS.pick [5, 0, 3, 4, 1, 2, 6, 7, 8]⟩
            omega
           ·
            refine K.DW.l 22 rfl (by kernel_rfl) (by kernel_rfl) (K.OW.q rfl (K.QR.k (v := .bool false) (by kernel_rfl)) ?_)
            refine ⟨.inl (hS.pick [3, 5]), ?_⟩
            refine K.DW.l 23 rfl (by kernel_rfl) rfl (K.OW.q rfl (K.QR.k (v := .bool false) (by kernel_rfl)) ?_)
            refine ⟨.inl (hS.pick [3, 5]), ?_⟩
            refine K.DW.done (by kernel_rfl) ?_
            refine K.t (K.f (K.k ?_))
            refine K.blk_normal ?_
            refine K.t (K.g (K.q [.int .i64 ((j : Nat) : Int)] ?_))
            refine K.a (K.QR.n64 ((((j : Nat) : Int) : Int) + (1 : Int)) ((j + 1 : Nat) : Int) (by kernel_rfl) (by omega)) ?_
            refine K.q [.int .i64 ((j + 1 : Nat) : Int)] (K.z (K.t ?_))
            refine ⟨_, ?_, j + 1, (stepE c ((lns c).toNat) x M).1, ((stepE c ((lns c).toNat) x M).2), g_196, g_213, l_197, l_214, rfl, ⟨by rfl, by rfl, by rfl, by rfl, by rfl, by rfl, by rfl, by rfl, by rfl, trivial⟩, (by omega), (by assumption), (by assumption), (by assumption), h_198, h_215, x_199, x_216, hS.pick [5, 0, 3, 4, 1, 2, 6, 7, 8]⟩
            omega
      ·
       refine K.x ((((j : Nat) : Int) : Int) < (((ls.length : Nat) : Int) : Int)) h_182 ?_
       refine K.z (K.t (K.f ?_))
       refine K.KW.exit ?_
       refine K.thn_exit ?_
       refine K.thn_exit ?_
       refine K.blk_hit ?_
       refine K.t (K.s (K.g ?_))
       refine K.l (K.OW.gcall hS [] [0, 1, 2, 3, 4, 5, 6, 7, 8] [] (awake10_ok _) ?_)
       clear hS; rintro _ _ w ⟨rfl, rfl⟩ hS
       replace hS : K.Sat w0 [g_169, g1, h1, gl_12, l1, m1, g_5, g_2, fr] w := hS
       refine K.q [.bool true] (K.z (K.t (K.r ?_)))
       refine ⟨.inr rfl, rfl, (.bool true), K.res1 rfl rfl, [], ?_, hS.pick [8]⟩
       exact rfl
 ·
  replace hS : K.Sat w0 [g_5, g_2, fr] w := hS.of (by simp [K.pick, K.nth])
  refine K.q [.tuple #[.pointer none, .pointer none, .pointer none, .bool false], .pointer none, .pointer none, .pointer none, .bool false, .pointer none, .pointer none, .pointer none, .bool false] (K.z (K.t (K.s (K.s (K.g (K.q [.bool false, .bool true, .bool true] ?_))))))
  refine K.RW.skip rfl (by kernel_rfl) ?_
  refine K.RW.skip rfl (by kernel_rfl) ?_
  refine K.RW.skip rfl (by kernel_rfl) ?_
  refine K.q [.bool true] (K.z (K.t (K.h (K.s (K.g ?_)))))
  refine K.l (K.OW.gcall hS [] [0, 1, 2] [] (awake10_ok _) ?_)
  clear hS; rintro _ _ w ⟨rfl, rfl⟩ hS
  replace hS : K.Sat w0 [g_5, g_2, fr] w := hS
  refine K.q [.bool true] (K.z (K.t (K.r (K.u ?_))))
  refine ⟨.inr rfl, rfl, (.bool true), K.res1 rfl rfl, [], ?_, hS.pick [2]⟩
  exact rfl
end Go.Proofs.YtajkickofkeemaaGreat
