/- The statement RetireSteps. -/
import Derived.Test.YtkmndplicmaahaaGreatFm11
import Derived.Test.YtkmndplicmaahaaGreatKn
namespace Go.Proofs.YtkmndplicmaahaaGreat
open Go.RowKit
set_option linter.unusedVariables false
attribute [local irreducible] K.KW K.RW K.DW K.OW K.QR K.KC
set_option maxHeartbeats 1000000 in
set_option maxRecDepth 100000 in
theorem l11steps_ok (w0 : World) (c : Cfg) (pa : Option Addr) (cp : Nat) (ps : List PutM) (hg : ∀ j, j < ps.length → isInt (ps.getD j pu0).at_ ∧ isW (ps.getD j pu0).w) (hxp : K.RowE w0 pa ps.length 2 (fun i => cPut (ps.getD i pu0))) (k0 tt pl sl : Int) (hk0 : isInt k0) (htt : isInt tt) (hpl : isInt pl) (hsl : isInt sl) (b : Option Addr) (cap2 : Nat) (ls : List PokeM) (hk : ∀ j, j < ls.length → (ls.getD j pk0).act.good ∧ isW (ls.getD j pk0).act.w) (hl : ls.length ≤ 9223372036854775807) (hy : K.RowE w0 b ls.length 6 (fun i => cPoke (ls.getD i pk0))) :
  K.GC Tryz.prog w0 4 #[.agg #[.int .i64 c.th, .int .i64 c.sl, .int .i64 c.lo, .int .i64 c.bu, .slice pa ps.length cp], .agg #[.int .i64 k0, .int .i64 tt, .int .i64 pl, .int .i64 sl], .slice b ls.length cap2] [] (fun v post => v = .bool true) := by
 refine K.GC.mk (n := 87) Tryz.func4 rfl rfl [.agg #[.int .i64 c.th, .int .i64 c.sl, .int .i64 c.lo, .int .i64 c.bu, .slice pa ps.length cp], .agg #[.int .i64 k0, .int .i64 tt, .int .i64 pl, .int .i64 sl], .slice b ls.length cap2] rfl rfl ?_
 intro fr w hS
 replace hS : K.Sat w0 [fr] w := hS
 refine K.s (K.g ?_)
 refine K.l (K.OW.gnew 37 [.int .i64 c.th, .int .i64 c.sl, .int .i64 c.lo, .int .i64 c.bu, .slice pa ps.length cp] hS ?_)
 clear hS; intro w r_1 g_2 hg_3 hS
 refine K.l (K.OW.gnew 54 [.int .i64 k0, .int .i64 tt, .int .i64 pl, .int .i64 sl] hS ?_)
 clear hS; intro w r_4 g_5 hg_6 hS
 refine K.q [.bool false] (K.z (K.t (K.s (K.g ?_))))
 refine K.a (K.QR.ldN [.int .i64 c.th, .int .i64 c.sl, .int .i64 c.lo, .int .i64 c.bu, .slice pa ps.length cp] rfl rfl (by kernel_rfl) (by kernel_rfl) (K.cells (K.cl ((hS.blk 1 rfl hg_3).cell rfl) (K.cl ((hS.blk 1 rfl hg_3).cell rfl) (K.cl ((hS.blk 1 rfl hg_3).cell rfl) (K.cl ((hS.blk 1 rfl hg_3).cell rfl) (K.cl ((hS.blk 1 rfl hg_3).cell rfl) K.cl0))))))) ?_
 refine K.l (K.OW.gcall hS [53] [0, 1, 2] [.agg #[.int .i64 c.th, .int .i64 c.sl, .int .i64 c.lo, .int .i64 c.bu, .slice pa ps.length cp]] (lay_ok _ c _ _ ps (fun j hj => (hg j hj).1) _ (fun w h => hxp.no h.chg)) ?_)
 clear hS; rintro _ _ w (⟨b_7, p_8, q_9, r_10, u_11, _, _, gl_12, l_13, m_14, rfl, rfl, hl_15, x_16, y_17, rfl, rfl, hf_18, hp_19⟩ | ⟨rfl, rfl, h_20⟩) hS
 ·
  replace hS : K.Sat w0 [gl_12, l_13, m_14, g_5, g_2, fr] w := hS.of (by simp [K.pick, K.nth])
  have hc : cfgOk c := hf_18.1
  obtain ⟨hfa, hfb⟩ : (((1 ≤ c.th ∧ c.th ≤ 64) ∧ (1 ≤ c.sl ∧ c.sl ≤ 65536) ∧ (1 ≤ c.lo ∧ c.lo ≤ 64) ∧ (1 ≤ c.bu ∧ c.bu ≤ 64)) ∧ (c.th ≤ 6 ∧ c.sl ≤ 30 ∧ c.lo ≤ 8 ∧ c.bu ≤ 8)) := (by have h := hf_18; unfold fewC cfgOk at h; exact h)
  have hM : (groundM ((lns c).toNat) (c.th.toNat) (2 + c.th + c.sl).toNat ps).good := ground_good (fun j hj => (hg j hj).2)
  have hP : (((groundM ((lns c).toNat) (c.th.toNat) (2 + c.th + c.sl).toNat ps).pass.length : Nat) : Int) = 2 + c.th + c.sl := by rw [ground_pass]; omega
  refine K.q [.tuple #[.pointer (some ⟨b_7, 0, none⟩), .pointer (some ⟨p_8, 0, none⟩), .pointer (some ⟨r_10, 0, none⟩), .bool true], .pointer (some ⟨b_7, 0, none⟩), .pointer (some ⟨p_8, 0, none⟩), .pointer (some ⟨r_10, 0, none⟩), .bool true, .pointer (some ⟨b_7, 0, none⟩), .pointer (some ⟨p_8, 0, none⟩), .pointer (some ⟨r_10, 0, none⟩), .bool true] (K.z (K.t (K.s (K.s (K.g (K.q [.bool true, .bool false, .bool false, .slice b ls.length cap2] ?_))))))
  refine K.a (K.QR.len (P := Tryz.prog) rfl rfl Tryz.underlying55) ?_
  by_cases h_21 : (((ls.length : Nat) : Int) : Int) > (60 : Int)
  ·
   refine K.y ((((ls.length : Nat) : Int) : Int) > (60 : Int)) h_21 ?_
   refine K.q [.bool true] (K.z (K.t (K.h (K.s (K.g ?_)))))
   refine K.l (K.OW.gcall hS [] [0, 1, 2, 3, 4, 5] [] (awake11_ok _) ?_)
   clear hS; rintro _ _ w ⟨rfl, rfl⟩ hS
   replace hS : K.Sat w0 [gl_12, l_13, m_14, g_5, g_2, fr] w := hS
   refine K.q [.bool true] (K.z (K.t (K.r (K.u ?_))))
   refine ⟨.inr rfl, rfl, (.bool true), K.res1 rfl rfl, [], ?_, hS.pick [5]⟩
   exact rfl
  ·
   refine K.x ((((ls.length : Nat) : Int) : Int) > (60 : Int)) h_21 ?_
   refine K.q [.bool false] (K.z (K.t (K.f (K.k (K.t (K.s (K.g (K.q [.pointer (some ⟨b_7, 0, none⟩), .pointer (some ⟨r_1, 0, none⟩)] ?_))))))))
   refine K.a (K.QR.ldN [.int .i64 c.th, .int .i64 c.sl, .int .i64 c.lo, .int .i64 c.bu] rfl rfl (by kernel_rfl) (by kernel_rfl) (K.cells (K.cl ((hS.blk 4 rfl hg_3).cell rfl) (K.cl ((hS.blk 4 rfl hg_3).cell rfl) (K.cl ((hS.blk 4 rfl hg_3).cell rfl) (K.cl ((hS.blk 4 rfl hg_3).cell rfl) K.cl0)))))) ?_
   refine K.a (K.QR.ldN [.int .i64 k0, .int .i64 tt, .int .i64 pl, .int .i64 sl] rfl rfl (by kernel_rfl) (by kernel_rfl) (K.cells (K.cl ((hS.blk 3 rfl hg_6).cell rfl) (K.cl ((hS.blk 3 rfl hg_6).cell rfl) (K.cl ((hS.blk 3 rfl hg_6).cell rfl) (K.cl ((hS.blk 3 rfl hg_6).cell rfl) K.cl0)))))) ?_
   refine K.l (K.OW.gcall hS [] [0, 1, 2, 3, 4, 5] [.pointer (some ⟨b_7, 0, none⟩), .agg #[.int .i64 c.th, .int .i64 c.sl, .int .i64 c.lo, .int .i64 c.bu], .agg #[.int .i64 k0, .int .i64 tt, .int .i64 pl, .int .i64 sl]] (made_ok _ b_7 c (by first | assumption | (unfold cfgOk; decide)) k0 tt pl sl (by omega) (by omega) (by omega)) ?_)
   clear hS; rintro _ _ w ⟨u_22, v_23, w_24, z_25, r_26, g_27, g2_28, rfl, rfl, h_29, h2_30⟩ hS
   replace hS : K.Sat w0 [g_27, g2_28, gl_12, l_13, m_14, g_5, g_2, fr] w := hS
   obtain ⟨hx0, hr0, hDo0⟩ := new_ok (c := c) (k := k0) (t := tt) (pl := pl) (sl := sl) (by assumption) htt hpl hsl
   refine K.q [.tuple #[.agg #[.pointer u_22, .pointer v_23, .pointer w_24, .pointer z_25], .pointer (some ⟨r_26, 0, none⟩)], .agg #[.pointer u_22, .pointer v_23, .pointer w_24, .pointer z_25], .pointer (some ⟨r_26, 0, none⟩)] ?_
   refine K.l (K.OW.gnew 58 [.pointer none, .pointer none, .pointer none, .pointer none] hS ?_)
   clear hS; intro w r_31 g_32 hg_33 hS
   refine K.l (K.OW.gst 0 [.pointer u_22, .pointer v_23, .pointer w_24, .pointer z_25] _ hS hg_33 ?_)
   clear hS; intro w g_34 hg_35 hS
   replace hS : K.Sat w0 [g_34, g_27, g2_28, gl_12, l_13, m_14, g_5, g_2, fr] w := hS
   refine K.q [.pointer (some ⟨r_26, 0, none⟩)] (K.z (K.t (K.s (K.s (K.g (K.q [.int .i64 0] (K.z (K.t ?_))))))))
   refine K.KW.block ?_
   refine K.KW.loop (fun m_ F_ w_ => ∃ (j : Nat) (x : MachR) (D : DM) (M : MemM) (g1 : K.Cs) (h1 : K.Cs) (l1 : K.Cs) (m1 : K.Cs), m_ = ls.length - j ∧ K.Sl F_ [(0, .agg #[.int .i64 c.th, .int .i64 c.sl, .int .i64 c.lo, .int .i64 c.bu, .slice pa ps.length cp]), (1, .agg #[.int .i64 k0, .int .i64 tt, .int .i64 pl, .int .i64 sl]), (2, .slice b ls.length cap2), (8, .pointer (some ⟨p_8, 0, none⟩)), (9, .pointer (some ⟨r_10, 0, none⟩)), (11, .pointer (some ⟨r_31, 0, none⟩)), (12, .pointer (some ⟨r_26, 0, none⟩)), (13, .int .i64 ((j : Nat) : Int)), (87, undef)] ∧ j ≤ ls.length ∧ x.good c ∧ RelD c x D ∧ D.ok ∧ M.good ∧ MachEl b_7 x u_22 v_23 w_24 z_25 g1 ∧ h1 = [K.pt r_26 70 [.int .i64 c.th, .int .i64 c.sl, .int .i64 c.lo, .int .i64 c.bu, .int .i64 D.t, .int .i64 D.kind, .int .i64 D.line, .int .i64 D.n, .int .i64 D.slot, .int .i64 D.place, .int .u64 D.now, .int .i64 D.holds, .int .i64 D.count, .int .i64 D.pc.th, .int .i64 D.pc.sl, .int .i64 D.pc.lo, .int .i64 D.pc.bu, .int .i64 D.push.t, .int .i64 D.push.line, .int .u64 D.push.top, .int .i64 D.push.slot]] ∧ MemAt l1 p_8 q_9 ((lns c).toNat) (c.th.toNat) M ∧ RMemAt m1 r_10 u_11 ((lns c).toNat) (c.th.toNat) M ∧ K.Sat w0 [g_34, g1, h1, gl_12, l1, m1, g_5, g_2, fr] w_) ((fun (j : Nat) (x : MachR) (D : DM) (M : MemM) => ls.length - j) 0 (newR k0 tt pl sl) (newD k0 tt pl sl) (groundM ((lns c).toNat) (c.th.toNat) (2 + c.th + c.sl).toNat ps)) ?_ ?_
   ·
    exact ⟨0, (newR k0 tt pl sl), (newD k0 tt pl sl), (groundM ((lns c).toNat) (c.th.toNat) (2 + c.th + c.sl).toNat ps), g_27, g2_28, l_13, m_14, rfl, ⟨by rfl, by rfl, by rfl, by rfl, by rfl, by rfl, by rfl, by rfl, by rfl, trivial⟩, (by omega), (hx0), (hr0), (hDo0), (hM), h_29, h2_30, x_16, y_17, hS.pick [0, 1, 2, 3, 4, 5, 6, 7, 8]⟩
   ·
    clear hS
    intro m_36 F_37 w hI
    obtain ⟨j, x, D, M, g1, h1, l1, m1, rfl, sl_38, p_39, hx, hr, hDo, hM, x_40, x_41, x_42, x_43, hS⟩ := hI
    rw [← K.Sl.puts sl_38]; clear sl_38
    refine K.s (K.s (K.g (K.q [.int .i64 ((j : Nat) : Int), .slice b ls.length cap2] ?_)))
    refine K.a (K.QR.len (P := Tryz.prog) rfl rfl Tryz.underlying55) ?_
    by_cases h_44 : (((j : Nat) : Int) : Int) < (((ls.length : Nat) : Int) : Int)
    ·
     refine K.y ((((j : Nat) : Int) : Int) < (((ls.length : Nat) : Int) : Int)) h_44 ?_
     refine K.z (K.t (K.h (K.k (K.t (K.s ?_)))))
     refine K.KW.block ?_
     refine K.s (K.s ?_)
     obtain ⟨b_45, of_46, rfl, _⟩ := hy.at_ (by omega)
     refine K.g (K.q [.slice (some ⟨b_45, of_46, none⟩) ls.length cap2, .int .i64 ((j : Nat) : Int)] ?_)
     refine K.a (K.QR.ix (of_46 + j * 6) 6 rfl rfl rfl Tryz.underlying55 (by kernel_rfl) (by omega) (by first | (simp; done) | omega | (simp; omega))) ?_
     refine K.q [.pointer (some ⟨b_45, of_46 + j * 6, none⟩)] ?_
     refine K.d (.bool ((ls.getD j pk0).step)) ((hy.no hS.chg).ld j (by omega) 0 _ rfl) ?_
     cases hb_47 : (ls.getD j pk0).step
     ·
      refine K.z (K.t (K.f (K.s (K.g (K.q [.pointer (some ⟨p_8, 0, none⟩), .slice (some ⟨b_45, of_46, none⟩) ls.length cap2, .int .i64 ((j : Nat) : Int)] ?_)))))
      refine K.a (K.QR.ix (of_46 + j * 6) 6 rfl rfl rfl Tryz.underlying55 (by kernel_rfl) (by omega) (by first | (simp; done) | omega | (simp; omega))) ?_
      refine K.q [.pointer (some ⟨b_45, of_46 + j * 6 + 1, none⟩)] ?_
      refine K.a (K.QR.ldN [.int .i64 ((ls.getD j pk0).act.kind), .int .i64 ((ls.getD j pk0).act.thread), .int .i64 ((ls.getD j pk0).act.at_), .int .u64 ((ls.getD j pk0).act.old), .int .u64 ((ls.getD j pk0).act.w)] rfl rfl (by kernel_rfl) (by kernel_rfl) (K.cells (K.cl ((hy.no hS.chg).ld j (by omega) 1 _ rfl) (K.cl ((hy.no hS.chg).ld j (by omega) 2 _ rfl) (K.cl ((hy.no hS.chg).ld j (by omega) 3 _ rfl) (K.cl ((hy.no hS.chg).ld j (by omega) 4 _ rfl) (K.cl ((hy.no hS.chg).ld j (by omega) 5 _ rfl) K.cl0))))))) ?_
      refine K.l (K.OW.gcall hS [4] [0, 1, 2, 3, 5, 6, 7, 8] [.pointer (some ⟨p_8, 0, none⟩), .agg #[.int .i64 ((ls.getD j pk0).act.kind), .int .i64 ((ls.getD j pk0).act.thread), .int .i64 ((ls.getD j pk0).act.at_), .int .u64 ((ls.getD j pk0).act.old), .int .u64 ((ls.getD j pk0).act.w)]] (do7_ok _ _ _ _ _ _ _ x_42 (ls.getD j pk0).act (hk j (by omega)).1) ?_)
      clear hS; rintro _ _ w ⟨l_48, rfl, rfl, x_49⟩ hS
      replace hS : K.Sat w0 [l_48, g_34, g1, h1, gl_12, m1, g_5, g_2, fr] w := hS
      have hM_50 : (act7 M ((lns c).toNat) (c.th.toNat) (ls.getD j pk0).act).good := act7_good (by assumption) (hk j (by omega)).2
      refine K.z (K.t (K.g (K.q [.pointer (some ⟨r_10, 0, none⟩), .slice (some ⟨b_45, of_46, none⟩) ls.length cap2, .int .i64 ((j : Nat) : Int)] ?_)))
      refine K.a (K.QR.ix (of_46 + j * 6) 6 rfl rfl rfl Tryz.underlying55 (by kernel_rfl) (by omega) (by first | (simp; done) | omega | (simp; omega))) ?_
      refine K.q [.pointer (some ⟨b_45, of_46 + j * 6 + 1, none⟩)] ?_
      refine K.a (K.QR.ldN [.int .i64 ((ls.getD j pk0).act.kind), .int .i64 ((ls.getD j pk0).act.thread), .int .i64 ((ls.getD j pk0).act.at_), .int .u64 ((ls.getD j pk0).act.old), .int .u64 ((ls.getD j pk0).act.w)] rfl rfl (by kernel_rfl) (by kernel_rfl) (K.cells (K.cl ((hy.no hS.chg).ld j (by omega) 1 _ rfl) (K.cl ((hy.no hS.chg).ld j (by omega) 2 _ rfl) (K.cl ((hy.no hS.chg).ld j (by omega) 3 _ rfl) (K.cl ((hy.no hS.chg).ld j (by omega) 4 _ rfl) (K.cl ((hy.no hS.chg).ld j (by omega) 5 _ rfl) K.cl0))))))) ?_
      refine K.l (K.OW.gcall hS [5] [0, 1, 2, 3, 4, 6, 7, 8] [.pointer (some ⟨r_10, 0, none⟩), .agg #[.int .i64 ((ls.getD j pk0).act.kind), .int .i64 ((ls.getD j pk0).act.thread), .int .i64 ((ls.getD j pk0).act.at_), .int .u64 ((ls.getD j pk0).act.old), .int .u64 ((ls.getD j pk0).act.w)]] (must7_ok _ _ _ _ _ _ _ x_43 (ls.getD j pk0).act (hk j (by omega)).1) ?_)
      clear hS; rintro _ _ w ⟨l_51, rfl, rfl, x_52⟩ hS
      replace hS : K.Sat w0 [l_51, l_48, g_34, g1, h1, gl_12, g_5, g_2, fr] w := hS
      refine K.z (K.t (K.s (K.g (K.q [.pointer (some ⟨p_8, 0, none⟩), .pointer (some ⟨r_10, 0, none⟩)] ?_))))
      refine K.l (K.OW.gcall hS [1, 0] [2, 3, 4, 5, 6, 7, 8] [.pointer (some ⟨p_8, 0, none⟩), .pointer (some ⟨r_10, 0, none⟩)] (same7_ok _ _ _ _ _ _ _ _ _ _ x_49 x_52) ?_)
      clear hS; rintro _ _ w ⟨rfl, rfl⟩ hS
      replace hS : K.Sat w0 [l_48, l_51, g_34, g1, h1, gl_12, g_5, g_2, fr] w := hS
      refine K.q [.bool false, .bool false] ?_
      refine K.a (K.QR.ldN [.pointer u_22, .pointer v_23, .pointer w_24, .pointer z_25] rfl rfl (by kernel_rfl) (by kernel_rfl) (K.cells (K.cl ((hS.blk 2 rfl hg_35).cell rfl) (K.cl ((hS.blk 2 rfl hg_35).cell rfl) (K.cl ((hS.blk 2 rfl hg_35).cell rfl) (K.cl ((hS.blk 2 rfl hg_35).cell rfl) K.cl0)))))) ?_
      refine K.q [.pointer (some ⟨r_26, 0, none⟩)] ?_
      refine K.l (K.OW.gcall hS [3, 5, 4] [0, 1, 2, 6, 7, 8] [.agg #[.pointer u_22, .pointer v_23, .pointer w_24, .pointer z_25], .pointer (some ⟨r_26, 0, none⟩)] (machSame_ok _ _ _ c (by first | assumption | (unfold cfgOk; decide)) x D _ _ _ _ _ _ _ x_40 hl_15 x_41 hx hr) ?_)
      clear hS; rintro _ _ w ⟨rfl, rfl⟩ hS
      replace hS : K.Sat w0 [g1, gl_12, h1, l_48, l_51, g_34, g_5, g_2, fr] w := hS
      refine K.q [.bool false, .bool false] (K.z (K.t (K.f (K.k ?_))))
      refine K.blk_normal ?_
      refine K.t (K.g (K.q [.int .i64 ((j : Nat) : Int)] ?_))
      refine K.a (K.QR.n64 ((((j : Nat) : Int) : Int) + (1 : Int)) ((j + 1 : Nat) : Int) (by kernel_rfl) (by omega)) ?_
      refine K.q [.int .i64 ((j + 1 : Nat) : Int)] (K.z (K.t ?_))
      refine ⟨_, ?_, j + 1, x, D, (act7 M ((lns c).toNat) (c.th.toNat) (ls.getD j pk0).act), g1, h1, l_48, l_51, rfl, ⟨by rfl, by rfl, by rfl, by rfl, by rfl, by rfl, by rfl, by rfl, by rfl, trivial⟩, (by omega), (hx), (hr), (hDo), (by assumption), x_40, x_41, x_49, x_52, hS.pick [5, 0, 2, 1, 3, 4, 6, 7, 8]⟩
      omega
     ·
      refine K.z (K.t (K.h (K.s (K.g ?_))))
      refine K.a (K.QR.ldN [.pointer u_22, .pointer v_23, .pointer w_24, .pointer z_25] rfl rfl (by kernel_rfl) (by kernel_rfl) (K.cells (K.cl ((hS.blk 0 rfl hg_35).cell rfl) (K.cl ((hS.blk 0 rfl hg_35).cell rfl) (K.cl ((hS.blk 0 rfl hg_35).cell rfl) (K.cl ((hS.blk 0 rfl hg_35).cell rfl) K.cl0)))))) ?_
      refine K.q [.pointer (some ⟨p_8, 0, none⟩)] ?_
      refine K.l (K.OW.gcall hS [1, 3, 4] [0, 2, 5, 6, 7, 8] [.agg #[.pointer u_22, .pointer v_23, .pointer w_24, .pointer z_25], .pointer (some ⟨p_8, 0, none⟩)] (machStep_ok _ _ _ _ _ _ c (by first | assumption | (unfold cfgOk; decide)) x M _ _ _ _ _ _ _ x_40 hl_15 x_42 (by assumption) (by assumption)) ?_)
      clear hS; rintro _ _ w ⟨g_53, l_54, rfl, rfl, h_55, x_56⟩ hS
      replace hS : K.Sat w0 [g_53, gl_12, l_54, g_34, h1, m1, g_5, g_2, fr] w := hS
      refine K.q [.bool ((stepR c ((lns c).toNat) (c.th.toNat) x M).1.done)] (K.z (K.t (K.s (K.g (K.q [.pointer (some ⟨r_26, 0, none⟩), .pointer (some ⟨r_10, 0, none⟩)] ?_)))))
      have hDg := rel_good (by assumption) hx hr hDo
      refine K.l (K.OW.gcall hS [4, 5] [0, 1, 2, 3, 6, 7, 8] [.pointer (some ⟨r_26, 0, none⟩), .pointer (some ⟨r_10, 0, none⟩)] (dStep_ok _ _ _ _ _ _ c (by first | assumption | (unfold cfgOk; decide)) D M _ _ x_41 x_43 (by assumption) hDg) ?_)
      clear hS; rintro _ _ w ⟨g_57, l_58, rfl, rfl, h_59, x_60⟩ hS
      replace hS : K.Sat w0 [g_57, l_58, g_53, gl_12, l_54, g_34, g_5, g_2, fr] w := hS
      obtain ⟨hx2, hr2, he2⟩ := rel_step (n := ((lns c).toNat)) (nt := (c.th.toNat)) (by assumption) hx hM hr
      have hDo2 := dStep_keep (c := c) (n := ((lns c).toNat)) (nt := (c.th.toNat)) hM hDo
      have hM2 := stepR_good (n := ((lns c).toNat)) (nt := (c.th.toNat)) (by assumption) hx hM
      rw [he2] at x_60
      have hln := rel_line hx2 hr2
      refine K.z (K.t (K.s ?_))
      cases hb_61 : (stepR c ((lns c).toNat) (c.th.toNat) x M).1.done
      ·
       refine K.g (K.q [.bool false, .pointer (some ⟨r_26, 0, none⟩), .pointer (some ⟨r_26, 0, none⟩), .pointer (some ⟨r_26, 6, none⟩)] ?_)
       refine K.d (.int .i64 ((dStep c ((lns c).toNat) (c.th.toNat) D M).1.line)) ((hS.blk 0 rfl h_59).cell rfl) ?_
       refine K.xe ((dStep c ((lns c).toNat) (c.th.toNat) D M).1.line : Int) (0 : Int) (hln.2 hb_61) ?_
       refine K.q [.bool false] (K.z (K.t (K.f (K.k (K.t (K.s (K.g (K.q [.pointer (some ⟨p_8, 0, none⟩), .pointer (some ⟨r_10, 0, none⟩)] ?_))))))))
       refine K.l (K.OW.gcall hS [4, 1] [0, 2, 3, 5, 6, 7, 8] [.pointer (some ⟨p_8, 0, none⟩), .pointer (some ⟨r_10, 0, none⟩)] (same7_ok _ _ _ _ _ _ _ _ _ _ x_56 x_60) ?_)
       clear hS; rintro _ _ w ⟨rfl, rfl⟩ hS
       replace hS : K.Sat w0 [l_54, l_58, g_57, g_53, gl_12, g_34, g_5, g_2, fr] w := hS
       refine K.q [.bool false, .bool false] ?_
       refine K.a (K.QR.ldN [.pointer u_22, .pointer v_23, .pointer w_24, .pointer z_25] rfl rfl (by kernel_rfl) (by kernel_rfl) (K.cells (K.cl ((hS.blk 5 rfl hg_35).cell rfl) (K.cl ((hS.blk 5 rfl hg_35).cell rfl) (K.cl ((hS.blk 5 rfl hg_35).cell rfl) (K.cl ((hS.blk 5 rfl hg_35).cell rfl) K.cl0)))))) ?_
       refine K.q [.pointer (some ⟨r_26, 0, none⟩)] ?_
       refine K.l (K.OW.gcall hS [3, 4, 2] [0, 1, 5, 6, 7, 8] [.agg #[.pointer u_22, .pointer v_23, .pointer w_24, .pointer z_25], .pointer (some ⟨r_26, 0, none⟩)] (machSame_ok _ _ _ c (by first | assumption | (unfold cfgOk; decide)) ((stepR c ((lns c).toNat) (c.th.toNat) x M).1) (dStep c ((lns c).toNat) (c.th.toNat) D M).1 _ _ _ _ _ _ _ h_55 hl_15 h_59 hx2 hr2) ?_)
       clear hS; rintro _ _ w ⟨rfl, rfl⟩ hS
       replace hS : K.Sat w0 [g_53, gl_12, g_57, l_54, l_58, g_34, g_5, g_2, fr] w := hS
       refine K.q [.bool false, .bool false] (K.z (K.t (K.f (K.k ?_))))
       refine K.blk_normal ?_
       refine K.t (K.g (K.q [.int .i64 ((j : Nat) : Int)] ?_))
       refine K.a (K.QR.n64 ((((j : Nat) : Int) : Int) + (1 : Int)) ((j + 1 : Nat) : Int) (by kernel_rfl) (by omega)) ?_
       refine K.q [.int .i64 ((j + 1 : Nat) : Int)] (K.z (K.t ?_))
       refine ⟨_, ?_, j + 1, (stepR c ((lns c).toNat) (c.th.toNat) x M).1, (dStep c ((lns c).toNat) (c.th.toNat) D M).1, ((stepR c ((lns c).toNat) (c.th.toNat) x M).2), g_53, g_57, l_54, l_58, rfl, ⟨by rfl, by rfl, by rfl, by rfl, by rfl, by rfl, by rfl, by rfl, by rfl, trivial⟩, (by omega), (hx2), (hr2), (hDo2), (hM2), h_55, h_59, x_56, x_60, hS.pick [5, 0, 2, 1, 3, 4, 6, 7, 8]⟩
       omega
      ·
       refine K.g (K.q [.bool true, .pointer (some ⟨r_26, 0, none⟩), .pointer (some ⟨r_26, 0, none⟩), .pointer (some ⟨r_26, 6, none⟩)] ?_)
       refine K.d (.int .i64 ((dStep c ((lns c).toNat) (c.th.toNat) D M).1.line)) ((hS.blk 0 rfl h_59).cell rfl) ?_
       refine K.ye ((dStep c ((lns c).toNat) (c.th.toNat) D M).1.line : Int) (0 : Int) (hln.1 hb_61) ?_
       refine K.q [.bool false] (K.z (K.t (K.f (K.k (K.t (K.s (K.g (K.q [.pointer (some ⟨p_8, 0, none⟩), .pointer (some ⟨r_10, 0, none⟩)] ?_))))))))
       refine K.l (K.OW.gcall hS [4, 1] [0, 2, 3, 5, 6, 7, 8] [.pointer (some ⟨p_8, 0, none⟩), .pointer (some ⟨r_10, 0, none⟩)] (same7_ok _ _ _ _ _ _ _ _ _ _ x_56 x_60) ?_)
       clear hS; rintro _ _ w ⟨rfl, rfl⟩ hS
       replace hS : K.Sat w0 [l_54, l_58, g_57, g_53, gl_12, g_34, g_5, g_2, fr] w := hS
       refine K.q [.bool false, .bool false] ?_
       refine K.a (K.QR.ldN [.pointer u_22, .pointer v_23, .pointer w_24, .pointer z_25] rfl rfl (by kernel_rfl) (by kernel_rfl) (K.cells (K.cl ((hS.blk 5 rfl hg_35).cell rfl) (K.cl ((hS.blk 5 rfl hg_35).cell rfl) (K.cl ((hS.blk 5 rfl hg_35).cell rfl) (K.cl ((hS.blk 5 rfl hg_35).cell rfl) K.cl0)))))) ?_
       refine K.q [.pointer (some ⟨r_26, 0, none⟩)] ?_
       refine K.l (K.OW.gcall hS [3, 4, 2] [0, 1, 5, 6, 7, 8] [.agg #[.pointer u_22, .pointer v_23, .pointer w_24, .pointer z_25], .pointer (some ⟨r_26, 0, none⟩)] (machSame_ok _ _ _ c (by first | assumption | (unfold cfgOk; decide)) ((stepR c ((lns c).toNat) (c.th.toNat) x M).1) (dStep c ((lns c).toNat) (c.th.toNat) D M).1 _ _ _ _ _ _ _ h_55 hl_15 h_59 hx2 hr2) ?_)
       clear hS; rintro _ _ w ⟨rfl, rfl⟩ hS
       replace hS : K.Sat w0 [g_53, gl_12, g_57, l_54, l_58, g_34, g_5, g_2, fr] w := hS
       refine K.q [.bool false, .bool false] (K.z (K.t (K.f (K.k ?_))))
       refine K.blk_normal ?_
       refine K.t (K.g (K.q [.int .i64 ((j : Nat) : Int)] ?_))
       refine K.a (K.QR.n64 ((((j : Nat) : Int) : Int) + (1 : Int)) ((j + 1 : Nat) : Int) (by kernel_rfl) (by omega)) ?_
       refine K.q [.int .i64 ((j + 1 : Nat) : Int)] (K.z (K.t ?_))
       refine ⟨_, ?_, j + 1, (stepR c ((lns c).toNat) (c.th.toNat) x M).1, (dStep c ((lns c).toNat) (c.th.toNat) D M).1, ((stepR c ((lns c).toNat) (c.th.toNat) x M).2), g_53, g_57, l_54, l_58, rfl, ⟨by rfl, by rfl, by rfl, by rfl, by rfl, by rfl, by rfl, by rfl, by rfl, trivial⟩, (by omega), (hx2), (hr2), (hDo2), (hM2), h_55, h_59, x_56, x_60, hS.pick [5, 0, 2, 1, 3, 4, 6, 7, 8]⟩
       omega
    ·
     refine K.x ((((j : Nat) : Int) : Int) < (((ls.length : Nat) : Int) : Int)) h_44 ?_
     refine K.z (K.t (K.f ?_))
     refine K.KW.exit ?_
     refine K.thn_exit ?_
     refine K.thn_exit ?_
     refine K.blk_hit ?_
     refine K.t (K.s (K.g ?_))
     refine K.l (K.OW.gcall hS [] [0, 1, 2, 3, 4, 5, 6, 7, 8] [] (awake11_ok _) ?_)
     clear hS; rintro _ _ w ⟨rfl, rfl⟩ hS
     replace hS : K.Sat w0 [g_34, g1, h1, gl_12, l1, m1, g_5, g_2, fr] w := hS
     refine K.q [.bool true] (K.z (K.t (K.r ?_)))
     refine ⟨.inr rfl, rfl, (.bool true), K.res1 rfl rfl, [], ?_, hS.pick [8]⟩
     exact rfl
 ·
  replace hS : K.Sat w0 [g_5, g_2, fr] w := hS.of (by simp [K.pick, K.nth])
  refine K.q [.tuple #[.pointer none, .pointer none, .pointer none, .bool false], .pointer none, .pointer none, .pointer none, .bool false, .pointer none, .pointer none, .pointer none, .bool false] (K.z (K.t (K.s (K.s (K.g (K.q [.bool false, .bool true, .bool true] (K.n_ (K.n_ (K.n_ (K.q [.bool true] (K.z (K.t (K.h (K.s ?_))))))))))))))
  refine K.g ?_
  refine K.l (K.OW.gcall hS [] [0, 1, 2] [] (awake11_ok _) ?_)
  clear hS; rintro _ _ w ⟨rfl, rfl⟩ hS
  replace hS : K.Sat w0 [g_5, g_2, fr] w := hS
  refine K.q [.bool true] (K.z (K.t (K.r (K.u ?_))))
  refine ⟨.inr rfl, rfl, (.bool true), K.res1 rfl rfl, [], ?_, hS.pick [2]⟩
  exact rfl
end Go.Proofs.YtkmndplicmaahaaGreat
