/- The statement FreePushes. -/
import Derived.Test.YtajkickofkeemaaGreatFl9c
import Derived.Test.YtajkickofkeemaaGreatKn
namespace Go.Proofs.YtajkickofkeemaaGreat
open Go.RowKit
set_option linter.unusedVariables false
attribute [local irreducible] K.KW K.RW K.DW K.OW K.QR K.KC

set_option maxHeartbeats 1000000 in
set_option maxRecDepth 100000 in
theorem l9pushes_ok (w0 : World) (c : Cfg) (pa : Option Addr) (cp : Nat) (ps : List PutM) (hg : ∀ j, j < ps.length → isInt (ps.getD j pu0).at_ ∧ isW (ps.getD j pu0).w) (hxp : K.RowE w0 pa ps.length 2 (fun i => cPut (ps.getD i pu0))) (tt sl : Int) (htt : isInt tt) (hsl : isInt sl) (b : Option Addr) (cap2 : Nat) (ls : List PokeM) (hk : ∀ j, j < ls.length → (ls.getD j pk0).act.good ∧ isW (ls.getD j pk0).act.w) (hl : ls.length ≤ 9223372036854775807) (hy : K.RowE w0 b ls.length 6 (fun i => cPoke (ls.getD i pk0))) :
  K.GC Tryz.prog w0 5 #[.agg #[.int .i64 c.th, .int .i64 c.sl, .int .i64 c.lo, .int .i64 c.bu, .slice pa ps.length cp], .agg #[.int .i64 tt, .int .i64 sl], .slice b ls.length cap2] [] (fun v post => v = .bool true) := by
 refine K.GC.mk (n := 97) Tryz.func5 rfl rfl [.agg #[.int .i64 c.th, .int .i64 c.sl, .int .i64 c.lo, .int .i64 c.bu, .slice pa ps.length cp], .agg #[.int .i64 tt, .int .i64 sl], .slice b ls.length cap2] rfl rfl ?_
 intro fr w hS
 replace hS : K.Sat w0 [fr] w := hS
 refine K.s (K.g ?_)
 refine K.l (K.OW.gnew 26 [.int .i64 c.th, .int .i64 c.sl, .int .i64 c.lo, .int .i64 c.bu, .slice pa ps.length cp] hS ?_)
 clear hS; intro w r_1 g_2 hg_3 hS
 refine K.l (K.OW.gnew 27 [.int .i64 tt, .int .i64 sl] hS ?_)
 clear hS; intro w r_4 g_5 hg_6 hS
 refine K.q [.bool false] (K.z (K.t (K.s (K.g ?_))))
 refine K.a (K.QR.ldN [.int .i64 c.th, .int .i64 c.sl, .int .i64 c.lo, .int .i64 c.bu, .slice pa ps.length cp] rfl rfl (by kernel_rfl) (by kernel_rfl) (K.cells (K.cl ((hS.blk 1 rfl hg_3).cell rfl) (K.cl ((hS.blk 1 rfl hg_3).cell rfl) (K.cl ((hS.blk 1 rfl hg_3).cell rfl) (K.cl ((hS.blk 1 rfl hg_3).cell rfl) (K.cl ((hS.blk 1 rfl hg_3).cell rfl) K.cl0))))))) ?_
 refine K.l (K.OW.gcall hS [53] [0, 1, 2] [.agg #[.int .i64 c.th, .int .i64 c.sl, .int .i64 c.lo, .int .i64 c.bu, .slice pa ps.length cp]] (lay_ok _ c _ _ ps (fun j hj => (hg j hj).1) _ (fun w h => hxp.no h.chg)) ?_)
 clear hS; rintro _ _ w (⟨b_7, p_8, q_9, r_10, u_11, _, _, gl_12, l_13, m_14, rfl, rfl, hl_15, x_16, y_17, rfl, rfl, hf_18, hp_19⟩ | ⟨rfl, rfl, h_20⟩) hS
 ·
  replace hS : K.Sat w0 [gl_12, l_13, m_14, g_5, g_2, fr] w := hS.of (by simp [K.pick, K.nth])
  have hc : cfgOk c := hf_18.1
  obtain ⟨hfa, hfb⟩ : (((1 ≤ c.th ∧ c.th ≤ 64) ∧ (1 ≤ c.sl ∧ c.sl ≤ 65536) ∧ (1 ≤ c.lo ∧ c.lo ≤ 64) ∧ (1 ≤ c.bu ∧ c.bu ≤ 64)) ∧ (c.th ≤ 6 ∧ c.sl ≤ 30 ∧ c.lo ≤ 8 ∧ c.bu ≤ 8)) := (by have h := hf_18; unfold fewC cfgOk at h; exact h)
  have hM : (groundM ((lns c).toNat) (c.th.toNat) (2 + c.th + c.sl).toNat ps).good := ground_good (fun j hj => (hg j hj).2)
  have hP : (((groundM ((lns c).toNat) (c.th.toNat) (2 + c.th + c.sl).toNat ps).pass.length : Nat) : Int) = 2 + c.th + c.sl := by rw [ground_pass]; omega
  refine K.q [.tuple #[.pointer (some ⟨b_7, 0, none⟩), .pointer (some ⟨p_8, 0, none⟩), .pointer (some ⟨r_10, 0, none⟩), .bool true], .pointer (some ⟨b_7, 0, none⟩), .pointer (some ⟨p_8, 0, none⟩), .pointer (some ⟨r_10, 0, none⟩), .bool true, .pointer (some ⟨b_7, 0, none⟩), .pointer (some ⟨p_8, 0, none⟩), .pointer (some ⟨r_10, 0, none⟩), .bool true] (K.z (K.t (K.s (K.s (K.g (K.q [.bool true, .bool false, .bool false, .slice b ls.length cap2] ?_))))))
  refine K.a (K.QR.len (P := Tryz.prog) rfl rfl Tryz.underlying28) ?_
  by_cases h_21 : (((ls.length : Nat) : Int) : Int) > (60 : Int)
  ·
   refine K.y ((((ls.length : Nat) : Int) : Int) > (60 : Int)) h_21 ?_
   refine K.q [.bool true] (K.z (K.t (K.h (K.s (K.g ?_)))))
   refine K.l (K.OW.gcall hS [] [0, 1, 2, 3, 4, 5] [] (awake09_ok _) ?_)
   clear hS; rintro _ _ w ⟨rfl, rfl⟩ hS
   replace hS : K.Sat w0 [gl_12, l_13, m_14, g_5, g_2, fr] w := hS
   refine K.q [.bool true] (K.z (K.t (K.r (K.u ?_))))
   refine ⟨.inr rfl, rfl, (.bool true), K.res1 rfl rfl, [], ?_, hS.pick [5]⟩
   exact rfl
  ·
   refine K.x ((((ls.length : Nat) : Int) : Int) > (60 : Int)) h_21 ?_
   refine K.q [.bool false] (K.z (K.t (K.f (K.k (K.t (K.s (K.g (K.q [.pointer (some ⟨b_7, 0, none⟩)] ?_))))))))
   refine K.a (K.QR.ixA 0 1 rfl rfl rfl Tryz.underlying27 (by kernel_rfl) (by omega) (by first | rfl | simp)) ?_
   refine K.d (.int .i64 tt) ((hS.blk 3 rfl hg_6).cell rfl) ?_
   refine K.a (K.QR.ixA 1 1 rfl rfl rfl Tryz.underlying27 (by kernel_rfl) (by omega) (by first | rfl | simp)) ?_
   refine K.d (.int .i64 sl) ((hS.blk 3 rfl hg_6).cell rfl) ?_
   refine K.l (K.OW.gcall hS [] [0, 1, 2, 3, 4, 5] [.pointer (some ⟨b_7, 0, none⟩), .int .i64 tt, .int .i64 sl] (newPush_ok _ _ tt sl) ?_)
   clear hS; rintro _ _ w ⟨p_22, g_23, rfl, rfl, h_24⟩ hS
   replace hS : K.Sat w0 [g_23, gl_12, l_13, m_14, g_5, g_2, fr] w := hS
   have hS_25 : PushS.good (⟨tt, 0, 0, sl⟩ : PushS) := pushInit (by omega) (by omega)
   refine K.q [.pointer (some ⟨p_22, 0, none⟩)] (K.z (K.t (K.s (K.g (K.q [.pointer (some ⟨r_1, 0, none⟩)] ?_)))))
   refine K.a (K.QR.ldN [.int .i64 c.th, .int .i64 c.sl, .int .i64 c.lo, .int .i64 c.bu] rfl rfl (by kernel_rfl) (by kernel_rfl) (K.cells (K.cl ((hS.blk 5 rfl hg_3).cell rfl) (K.cl ((hS.blk 5 rfl hg_3).cell rfl) (K.cl ((hS.blk 5 rfl hg_3).cell rfl) (K.cl ((hS.blk 5 rfl hg_3).cell rfl) K.cl0)))))) ?_
   refine K.a (K.QR.ixA 0 1 rfl rfl rfl Tryz.underlying27 (by kernel_rfl) (by omega) (by first | rfl | simp)) ?_
   refine K.d (.int .i64 tt) ((hS.blk 4 rfl hg_6).cell rfl) ?_
   refine K.a (K.QR.ixA 1 1 rfl rfl rfl Tryz.underlying27 (by kernel_rfl) (by omega) (by first | rfl | simp)) ?_
   refine K.d (.int .i64 sl) ((hS.blk 4 rfl hg_6).cell rfl) ?_
   refine K.a (K.QR.bd [(0, .agg #[.int .i64 c.th, .int .i64 c.sl, .int .i64 c.lo, .int .i64 c.bu]), (1, .int .i64 tt), (2, .int .i64 1), (4, .int .i64 sl)] [.int .i64 c.th, .int .i64 c.sl, .int .i64 c.lo, .int .i64 c.bu, .int .i64 tt, .int .i64 1, .int .u64 0, .int .i64 sl] rfl rfl (by kernel_rfl)) ?_
   refine K.l (K.OW.gnew 67 [.int .i64 c.th, .int .i64 c.sl, .int .i64 c.lo, .int .i64 c.bu, .int .i64 tt, .int .i64 1, .int .u64 0, .int .i64 sl] hS ?_)
   clear hS; intro w r_26 g_27 hg_28 hS
   refine K.q [.pointer (some ⟨r_26, 0, none⟩)] (K.z (K.t (K.s (K.s (K.g (K.q [.int .i64 0] (K.z (K.t ?_))))))))
   refine K.KW.block ?_
   refine K.KW.loop (fun m_ F_ w_ => ∃ (j : Nat) (S : PushS) (M : MemM) (g1 : K.Cs) (h1 : K.Cs) (l1 : K.Cs) (m1 : K.Cs), m_ = ls.length - j ∧ K.Sl F_ [(0, .agg #[.int .i64 c.th, .int .i64 c.sl, .int .i64 c.lo, .int .i64 c.bu, .slice pa ps.length cp]), (1, .agg #[.int .i64 tt, .int .i64 sl]), (2, .slice b ls.length cap2), (8, .pointer (some ⟨p_8, 0, none⟩)), (9, .pointer (some ⟨r_10, 0, none⟩)), (11, .pointer (some ⟨p_22, 0, none⟩)), (12, .pointer (some ⟨r_26, 0, none⟩)), (13, .int .i64 ((j : Nat) : Int)), (97, undef)] ∧ j ≤ ls.length ∧ S.good ∧ pcOk S.pc ∧ M.good ∧ g1 = [K.pt p_22 128 [.pointer (some ⟨b_7, 0, none⟩), .int .i64 S.t, .int .i64 S.pc, .int .u64 S.top, .int .i64 S.slot]] ∧ h1 = [K.pt r_26 67 [.int .i64 c.th, .int .i64 c.sl, .int .i64 c.lo, .int .i64 c.bu, .int .i64 S.t, .int .i64 (lineOf S.pc), .int .u64 S.top, .int .i64 S.slot]] ∧ MemAt l1 p_8 q_9 ((lns c).toNat) (c.th.toNat) M ∧ RMemAt m1 r_10 u_11 ((lns c).toNat) (c.th.toNat) M ∧ K.Sat w0 [h1, g1, gl_12, l1, m1, g_5, g_2, fr] w_) ((fun (j : Nat) (S : PushS) (M : MemM) => ls.length - j) 0 ⟨tt, 0, 0, sl⟩ (groundM ((lns c).toNat) (c.th.toNat) (2 + c.th + c.sl).toNat ps)) ?_ ?_
   ·
    exact ⟨0, ⟨tt, 0, 0, sl⟩, (groundM ((lns c).toNat) (c.th.toNat) (2 + c.th + c.sl).toNat ps), g_23, g_27, l_13, m_14, rfl, ⟨by rfl, by rfl, by rfl, by rfl, by rfl, by rfl, by rfl, by rfl, by rfl, trivial⟩, (by omega), (pushInit (by omega) (by omega)), (by exact .inl rfl), (hM), h_24, hg_28, x_16, y_17, hS.pick [0, 1, 2, 3, 4, 5, 6, 7]⟩
   ·
    clear hS
    intro m_29 F_30 w hI
    obtain ⟨j, S, M, g1, h1, l1, m1, rfl, sl_31, p_32, p_33, p_34, p_35, x_36, x_37, x_38, x_39, hS⟩ := hI
    rw [← K.Sl.puts sl_31]; clear sl_31
    refine K.s (K.s (K.g (K.q [.int .i64 ((j : Nat) : Int), .slice b ls.length cap2] ?_)))
    refine K.a (K.QR.len (P := Tryz.prog) rfl rfl Tryz.underlying28) ?_
    by_cases h_40 : (((j : Nat) : Int) : Int) < (((ls.length : Nat) : Int) : Int)
    ·
     refine K.y ((((j : Nat) : Int) : Int) < (((ls.length : Nat) : Int) : Int)) h_40 ?_
     refine K.z (K.t (K.h (K.k (K.t (K.s ?_)))))
     refine K.KW.block ?_
     refine K.s (K.s ?_)
     obtain ⟨b_41, of_42, rfl, _⟩ := hy.at_ (by omega)
     refine K.g (K.q [.slice (some ⟨b_41, of_42, none⟩) ls.length cap2, .int .i64 ((j : Nat) : Int)] ?_)
     refine K.a (K.QR.ix (of_42 + j * 6) 6 rfl rfl rfl Tryz.underlying28 (by kernel_rfl) (by omega) (by first | (simp; done) | omega | (simp; omega))) ?_
     refine K.q [.pointer (some ⟨b_41, of_42 + j * 6, none⟩)] ?_
     refine K.d (.bool ((ls.getD j pk0).step)) ((hy.no hS.chg).ld j (by omega) 0 _ rfl) ?_
     cases hb_43 : (ls.getD j pk0).step
     ·
      refine K.z (K.t (K.f (K.s (K.g (K.q [.pointer (some ⟨p_8, 0, none⟩), .slice (some ⟨b_41, of_42, none⟩) ls.length cap2, .int .i64 ((j : Nat) : Int)] ?_)))))
      refine K.a (K.QR.ix (of_42 + j * 6) 6 rfl rfl rfl Tryz.underlying28 (by kernel_rfl) (by omega) (by first | (simp; done) | omega | (simp; omega))) ?_
      refine K.q [.pointer (some ⟨b_41, of_42 + j * 6 + 1, none⟩)] ?_
      refine K.a (K.QR.ldN [.int .i64 ((ls.getD j pk0).act.kind), .int .i64 ((ls.getD j pk0).act.thread), .int .i64 ((ls.getD j pk0).act.at_), .int .u64 ((ls.getD j pk0).act.old), .int .u64 ((ls.getD j pk0).act.w)] rfl rfl (by kernel_rfl) (by kernel_rfl) (K.cells (K.cl ((hy.no hS.chg).ld j (by omega) 1 _ rfl) (K.cl ((hy.no hS.chg).ld j (by omega) 2 _ rfl) (K.cl ((hy.no hS.chg).ld j (by omega) 3 _ rfl) (K.cl ((hy.no hS.chg).ld j (by omega) 4 _ rfl) (K.cl ((hy.no hS.chg).ld j (by omega) 5 _ rfl) K.cl0))))))) ?_
      refine K.l (K.OW.gcall hS [3] [0, 1, 2, 4, 5, 6, 7] [.pointer (some ⟨p_8, 0, none⟩), .agg #[.int .i64 ((ls.getD j pk0).act.kind), .int .i64 ((ls.getD j pk0).act.thread), .int .i64 ((ls.getD j pk0).act.at_), .int .u64 ((ls.getD j pk0).act.old), .int .u64 ((ls.getD j pk0).act.w)]] (do7_ok _ _ _ _ _ _ _ x_38 (ls.getD j pk0).act (hk j (by omega)).1) ?_)
      clear hS; rintro _ _ w ⟨l_44, rfl, rfl, x_45⟩ hS
      replace hS : K.Sat w0 [l_44, h1, g1, gl_12, m1, g_5, g_2, fr] w := hS
      have hM_46 : (act7 M ((lns c).toNat) (c.th.toNat) (ls.getD j pk0).act).good := act7_good (by assumption) (hk j (by omega)).2
      refine K.z (K.t (K.g (K.q [.pointer (some ⟨r_10, 0, none⟩), .slice (some ⟨b_41, of_42, none⟩) ls.length cap2, .int .i64 ((j : Nat) : Int)] ?_)))
      refine K.a (K.QR.ix (of_42 + j * 6) 6 rfl rfl rfl Tryz.underlying28 (by kernel_rfl) (by omega) (by first | (simp; done) | omega | (simp; omega))) ?_
      refine K.q [.pointer (some ⟨b_41, of_42 + j * 6 + 1, none⟩)] ?_
      refine K.a (K.QR.ldN [.int .i64 ((ls.getD j pk0).act.kind), .int .i64 ((ls.getD j pk0).act.thread), .int .i64 ((ls.getD j pk0).act.at_), .int .u64 ((ls.getD j pk0).act.old), .int .u64 ((ls.getD j pk0).act.w)] rfl rfl (by kernel_rfl) (by kernel_rfl) (K.cells (K.cl ((hy.no hS.chg).ld j (by omega) 1 _ rfl) (K.cl ((hy.no hS.chg).ld j (by omega) 2 _ rfl) (K.cl ((hy.no hS.chg).ld j (by omega) 3 _ rfl) (K.cl ((hy.no hS.chg).ld j (by omega) 4 _ rfl) (K.cl ((hy.no hS.chg).ld j (by omega) 5 _ rfl) K.cl0))))))) ?_
      refine K.l (K.OW.gcall hS [4] [0, 1, 2, 3, 5, 6, 7] [.pointer (some ⟨r_10, 0, none⟩), .agg #[.int .i64 ((ls.getD j pk0).act.kind), .int .i64 ((ls.getD j pk0).act.thread), .int .i64 ((ls.getD j pk0).act.at_), .int .u64 ((ls.getD j pk0).act.old), .int .u64 ((ls.getD j pk0).act.w)]] (must7_ok _ _ _ _ _ _ _ x_39 (ls.getD j pk0).act (hk j (by omega)).1) ?_)
      clear hS; rintro _ _ w ⟨l_47, rfl, rfl, x_48⟩ hS
      replace hS : K.Sat w0 [l_47, l_44, h1, g1, gl_12, g_5, g_2, fr] w := hS
      refine K.z (K.t (K.s ?_))
      by_cases h_49 : S.pc = 3
      ·
       refine K.KW.gdrawn [2] hS (by kernel_rfl) ?_
       clear hS; intro w hS
       refine K.DW.q 0 (by kernel_rfl) rfl rfl (by kernel_rfl) rfl (fun w hS => K.QR.k (v := .pointer (some ⟨p_8, 0, none⟩)) (by kernel_rfl)) (hS.pick [2]) ?_
       refine K.DW.l 1 rfl (by kernel_rfl) rfl (K.OW.q rfl (K.QR.k (v := .pointer (some ⟨r_10, 0, none⟩)) (by kernel_rfl)) ?_)
       refine ⟨.inl (hS.pick [2]), ?_⟩
       refine K.DW.l 2 rfl (by kernel_rfl) rfl (K.OW.gcall hS [1, 0] [2, 3, 4, 5, 6, 7] [.pointer (some ⟨p_8, 0, none⟩), .pointer (some ⟨r_10, 0, none⟩)] (same7_ok _ _ _ _ _ _ _ _ _ _ x_45 x_48) ?_)
       clear hS; rintro _ _ w ⟨rfl, rfl⟩ hS
       replace hS : K.Sat w0 [l_44, l_47, h1, g1, gl_12, g_5, g_2, fr] w := hS
       refine ⟨.inl (hS.pick [2]), ?_⟩
       refine K.DW.l 3 rfl (by kernel_rfl) rfl (K.OW.q rfl (K.QR.k (v := .bool false) (by kernel_rfl)) ?_)
       refine ⟨.inl (hS.pick [2]), ?_⟩
       refine K.DW.l 4 rfl (by kernel_rfl) rfl (K.OW.q rfl (K.QR.k (v := .bool false) (by kernel_rfl)) ?_)
       refine ⟨.inl (hS.pick [2]), ?_⟩
       refine K.DW.q 5 (by kernel_rfl) rfl rfl (by kernel_rfl) (by kernel_rfl) (fun w hS => K.QR.k (v := .pointer (some ⟨p_22, 0, none⟩)) (by kernel_rfl)) (hS.pick [2]) ?_
       refine K.DW.q 7 (by kernel_rfl) rfl rfl (by kernel_rfl) (by kernel_rfl) (fun w hS => K.QR.k (v := .pointer (some ⟨r_26, 0, none⟩)) (by kernel_rfl)) (hS.pick [2]) ?_
       refine K.DW.q 8 (by kernel_rfl) rfl rfl (by kernel_rfl) (by kernel_rfl) (fun w hS => K.QR.k (v := .pointer (some ⟨r_26, 0, none⟩)) (by kernel_rfl)) (hS.pick [2]) ?_
       refine K.DW.q 9 (by kernel_rfl) rfl rfl (by kernel_rfl) (by kernel_rfl) (fun w hS => K.QR.k (v := .pointer (some ⟨r_26, 5, none⟩)) (by kernel_rfl)) (hS.pick [2]) ?_
       refine K.DW.q 10 (by kernel_rfl) rfl rfl (by kernel_rfl) (by kernel_rfl) (fun w hS => K.QR.ld1 (v := .int .i64 (lineOf S.pc)) rfl rfl (by kernel_rfl) ((hS.blk 0 rfl x_37).cell rfl)) (hS.pick [2]) ?_
       refine K.DW.q 11 (by kernel_rfl) rfl rfl (by kernel_rfl) (by kernel_rfl) (fun w hS => K.QR.nice (v := .bool (((lineOf S.pc) : Int) == (0 : Int))) (by kernel_rfl) (congrArg Value.bool (beq_iff_eq.2 (line_t h_49)))) (hS.pick [2]) ?_
       refine K.DW.l 6 rfl (by kernel_rfl) (by kernel_rfl) (K.OW.gcall hS [3] [0, 1, 2, 4, 5, 6, 7] [.pointer (some ⟨p_22, 0, none⟩)] (pushDone_ok _ _ _ S _ x_36) ?_)
       clear hS; rintro _ _ w ⟨rfl, (⟨rfl, h_50⟩ | ⟨rfl, h_51⟩)⟩ hS
       ·
        replace hS : K.Sat w0 [g1, l_44, l_47, h1, gl_12, g_5, g_2, fr] w := hS
        refine ⟨.inl (hS.pick [3]), ?_⟩
        refine K.DW.l 12 rfl (by kernel_rfl) (by kernel_rfl) (K.OW.q rfl (K.QR.k (v := .bool false) (by kernel_rfl)) ?_)
        refine ⟨.inl (hS.pick [3]), ?_⟩
        refine K.DW.l 13 rfl (by kernel_rfl) rfl (K.OW.q rfl (K.QR.k (v := .bool false) (by kernel_rfl)) ?_)
        refine ⟨.inl (hS.pick [3]), ?_⟩
        refine K.DW.done (by kernel_rfl) ?_
        refine K.t (K.f (K.k ?_))
        refine K.blk_normal ?_
        refine K.t (K.g (K.q [.int .i64 ((j : Nat) : Int)] ?_))
        refine K.a (K.QR.n64 ((((j : Nat) : Int) : Int) + (1 : Int)) ((j + 1 : Nat) : Int) (by kernel_rfl) (by omega)) ?_
        refine K.q [.int .i64 ((j + 1 : Nat) : Int)] (K.z (K.t ?_))
        refine ⟨_, ?_, j + 1, S, (act7 M ((lns c).toNat) (c.th.toNat) (ls.getD j pk0).act), g1, h1, l_44, l_47, rfl, ⟨by rfl, by rfl, by rfl, by rfl, by rfl, by rfl, by rfl, by rfl, by rfl, trivial⟩, (by omega), (by assumption), (by assumption), (by assumption), x_36, x_37, x_45, x_48, hS.pick [3, 0, 4, 1, 2, 5, 6, 7]⟩
        omega
       ·
        exfalso; omega
      ·
       refine K.KW.gdrawn [2] hS (by kernel_rfl) ?_
       clear hS; intro w hS
       refine K.DW.q 0 (by kernel_rfl) rfl rfl (by kernel_rfl) rfl (fun w hS => K.QR.k (v := .pointer (some ⟨p_8, 0, none⟩)) (by kernel_rfl)) (hS.pick [2]) ?_
       refine K.DW.l 1 rfl (by kernel_rfl) rfl (K.OW.q rfl (K.QR.k (v := .pointer (some ⟨r_10, 0, none⟩)) (by kernel_rfl)) ?_)
       refine ⟨.inl (hS.pick [2]), ?_⟩
       refine K.DW.l 2 rfl (by kernel_rfl) rfl (K.OW.gcall hS [1, 0] [2, 3, 4, 5, 6, 7] [.pointer (some ⟨p_8, 0, none⟩), .pointer (some ⟨r_10, 0, none⟩)] (same7_ok _ _ _ _ _ _ _ _ _ _ x_45 x_48) ?_)
       clear hS; rintro _ _ w ⟨rfl, rfl⟩ hS
       replace hS : K.Sat w0 [l_44, l_47, h1, g1, gl_12, g_5, g_2, fr] w := hS
       refine ⟨.inl (hS.pick [2]), ?_⟩
       refine K.DW.l 3 rfl (by kernel_rfl) rfl (K.OW.q rfl (K.QR.k (v := .bool false) (by kernel_rfl)) ?_)
       refine ⟨.inl (hS.pick [2]), ?_⟩
       refine K.DW.l 4 rfl (by kernel_rfl) rfl (K.OW.q rfl (K.QR.k (v := .bool false) (by kernel_rfl)) ?_)
       refine ⟨.inl (hS.pick [2]), ?_⟩
       refine K.DW.q 5 (by kernel_rfl) rfl rfl (by kernel_rfl) (by kernel_rfl) (fun w hS => K.QR.k (v := .pointer (some ⟨p_22, 0, none⟩)) (by kernel_rfl)) (hS.pick [2]) ?_
       refine K.DW.q 7 (by kernel_rfl) rfl rfl (by kernel_rfl) (by kernel_rfl) (fun w hS => K.QR.k (v := .pointer (some ⟨r_26, 0, none⟩)) (by kernel_rfl)) (hS.pick [2]) ?_
       refine K.DW.q 8 (by kernel_rfl) rfl rfl (by kernel_rfl) (by kernel_rfl) (fun w hS => K.QR.k (v := .pointer (some ⟨r_26, 0, none⟩)) (by kernel_rfl)) (hS.pick [2]) ?_
       refine K.DW.q 9 (by kernel_rfl) rfl rfl (by kernel_rfl) (by kernel_rfl) (fun w hS => K.QR.k (v := .pointer (some ⟨r_26, 5, none⟩)) (by kernel_rfl)) (hS.pick [2]) ?_
       refine K.DW.q 10 (by kernel_rfl) rfl rfl (by kernel_rfl) (by kernel_rfl) (fun w hS => K.QR.ld1 (v := .int .i64 (lineOf S.pc)) rfl rfl (by kernel_rfl) ((hS.blk 0 rfl x_37).cell rfl)) (hS.pick [2]) ?_
       refine K.DW.q 11 (by kernel_rfl) rfl rfl (by kernel_rfl) (by kernel_rfl) (fun w hS => K.QR.nice (v := .bool (((lineOf S.pc) : Int) == (0 : Int))) (by kernel_rfl) (congrArg Value.bool (beq_eq_false_iff_ne.2 (line_f h_49 (by assumption))))) (hS.pick [2]) ?_
       refine K.DW.l 6 rfl (by kernel_rfl) (by kernel_rfl) (K.OW.gcall hS [3] [0, 1, 2, 4, 5, 6, 7] [.pointer (some ⟨p_22, 0, none⟩)] (pushDone_ok _ _ _ S _ x_36) ?_)
       clear hS; rintro _ _ w ⟨rfl, (⟨rfl, h_52⟩ | ⟨rfl, h_53⟩)⟩ hS
       ·
        exfalso; omega
       ·
        replace hS : K.Sat w0 [g1, l_44, l_47, h1, gl_12, g_5, g_2, fr] w := hS
        refine ⟨.inl (hS.pick [3]), ?_⟩
        refine K.DW.l 12 rfl (by kernel_rfl) (by kernel_rfl) (K.OW.q rfl (K.QR.k (v := .bool false) (by kernel_rfl)) ?_)
        refine ⟨.inl (hS.pick [3]), ?_⟩
        refine K.DW.l 13 rfl (by kernel_rfl) rfl (K.OW.q rfl (K.QR.k (v := .bool false) (by kernel_rfl)) ?_)
        refine ⟨.inl (hS.pick [3]), ?_⟩
        refine K.DW.done (by kernel_rfl) ?_
        refine K.t (K.f (K.k ?_))
        refine K.blk_normal ?_
        refine K.t (K.g (K.q [.int .i64 ((j : Nat) : Int)] ?_))
        refine K.a (K.QR.n64 ((((j : Nat) : Int) : Int) + (1 : Int)) ((j + 1 : Nat) : Int) (by kernel_rfl) (by omega)) ?_
        refine K.q [.int .i64 ((j + 1 : Nat) : Int)] (K.z (K.t ?_))
        refine ⟨_, ?_, j + 1, S, (act7 M ((lns c).toNat) (c.th.toNat) (ls.getD j pk0).act), g1, h1, l_44, l_47, rfl, ⟨by rfl, by rfl, by rfl, by rfl, by rfl, by rfl, by rfl, by rfl, by rfl, trivial⟩, (by omega), (by assumption), (by assumption), (by assumption), x_36, x_37, x_45, x_48, hS.pick [3, 0, 4, 1, 2, 5, 6, 7]⟩
        omega
     ·
      refine K.z (K.t (K.h (K.s (K.g (K.q [.pointer (some ⟨p_22, 0, none⟩), .pointer (some ⟨p_8, 0, none⟩)] ?_)))))
      refine K.l (K.OW.gcall hS [1, 2, 3] [0, 4, 5, 6, 7] [.pointer (some ⟨p_22, 0, none⟩), .pointer (some ⟨p_8, 0, none⟩)] (pushStep_ok _ _ _ _ _ _ _ c (by first | assumption | (unfold cfgOk; decide)) S _ _ _ _ x_36 hl_15 x_38 (by assumption) (by assumption)) ?_)
      clear hS; rintro _ _ w ⟨g_54, l_55, rfl, rfl, h_56, x_57⟩ hS
      replace hS : K.Sat w0 [g_54, gl_12, l_55, h1, m1, g_5, g_2, fr] w := hS
      obtain ⟨hS_58, hM_59⟩ := (pushStep_good (by assumption) (by assumption) : (pushStep c ((lns c).toNat) S M).1.good ∧ (pushStep c ((lns c).toNat) S M).2.good)
      have hpc_60 : pcOk (pushStep c ((lns c).toNat) S M).1.pc := pushStep_pc (by assumption)
      refine K.q [.bool (decide ((pushStep c ((lns c).toNat) S M).1.pc = 3))] (K.z (K.t (K.s (K.g (K.q [.pointer (some ⟨r_26, 0, none⟩), .pointer (some ⟨r_10, 0, none⟩)] ?_)))))
      refine K.l (K.OW.gcall hS [3, 4] [0, 1, 2, 5, 6, 7] [.pointer (some ⟨r_26, 0, none⟩), .pointer (some ⟨r_10, 0, none⟩)] (rpushStep_ok _ _ _ _ _ _ c (by assumption) S M _ _ (by assumption) x_37 x_39 (by assumption) (by assumption)) ?_)
      clear hS; rintro _ _ w ⟨g_61, l_62, rfl, rfl, h_63, x_64⟩ hS
      replace hS : K.Sat w0 [g_61, l_62, g_54, gl_12, l_55, g_5, g_2, fr] w := hS
      refine K.z (K.t (K.s (K.g (K.q [.bool (decide ((pushStep c ((lns c).toNat) S M).1.pc = 3))] ?_))))
      cases hb_65 : (decide ((pushStep c ((lns c).toNat) S M).1.pc = 3))
      ·
       refine K.q [.pointer (some ⟨r_26, 0, none⟩), .pointer (some ⟨r_26, 0, none⟩), .pointer (some ⟨r_26, 5, none⟩)] ?_
       refine K.d (.int .i64 (lineOf (pushStep c ((lns c).toNat) S M).1.pc)) ((hS.blk 0 rfl h_63).cell rfl) ?_
       refine K.xe ((lineOf (pushStep c ((lns c).toNat) S M).1.pc) : Int) (0 : Int) (line_f (of_decide_eq_false hb_65) (by assumption)) ?_
       refine K.q [.bool false] (K.z (K.t (K.f (K.k (K.t (K.s ?_))))))
       have hdn_66 := of_decide_eq_false hb_65
       refine K.KW.gdrawn [0] hS (by kernel_rfl) ?_
       clear hS; intro w hS
       refine K.DW.q 0 (by kernel_rfl) rfl rfl (by kernel_rfl) rfl (fun w hS => K.QR.k (v := .pointer (some ⟨p_8, 0, none⟩)) (by kernel_rfl)) (hS.pick [0]) ?_
       refine K.DW.l 1 rfl (by kernel_rfl) rfl (K.OW.q rfl (K.QR.k (v := .pointer (some ⟨r_10, 0, none⟩)) (by kernel_rfl)) ?_)
       refine ⟨.inl (hS.pick [0]), ?_⟩
       refine K.DW.l 2 rfl (by kernel_rfl) rfl (K.OW.gcall hS [4, 1] [0, 2, 3, 5, 6, 7] [.pointer (some ⟨p_8, 0, none⟩), .pointer (some ⟨r_10, 0, none⟩)] (same7_ok _ _ _ _ _ _ _ _ _ _ x_57 x_64) ?_)
       clear hS; rintro _ _ w ⟨rfl, rfl⟩ hS
       replace hS : K.Sat w0 [l_55, l_62, g_61, g_54, gl_12, g_5, g_2, fr] w := hS
       refine ⟨.inl (hS.pick [2]), ?_⟩
       refine K.DW.l 3 rfl (by kernel_rfl) rfl (K.OW.q rfl (K.QR.k (v := .bool false) (by kernel_rfl)) ?_)
       refine ⟨.inl (hS.pick [2]), ?_⟩
       refine K.DW.l 4 rfl (by kernel_rfl) rfl (K.OW.q rfl (K.QR.k (v := .bool false) (by kernel_rfl)) ?_)
       refine ⟨.inl (hS.pick [2]), ?_⟩
       refine K.DW.q 5 (by kernel_rfl) rfl rfl (by kernel_rfl) (by kernel_rfl) (fun w hS => K.QR.k (v := .pointer (some ⟨p_22, 0, none⟩)) (by kernel_rfl)) (hS.pick [2]) ?_
       refine K.DW.q 7 (by kernel_rfl) rfl rfl (by kernel_rfl) (by kernel_rfl) (fun w hS => K.QR.k (v := .pointer (some ⟨r_26, 0, none⟩)) (by kernel_rfl)) (hS.pick [2]) ?_
       refine K.DW.q 8 (by kernel_rfl) rfl rfl (by kernel_rfl) (by kernel_rfl) (fun w hS => K.QR.k (v := .pointer (some ⟨r_26, 0, none⟩)) (by kernel_rfl)) (hS.pick [2]) ?_
       refine K.DW.q 9 (by kernel_rfl) rfl rfl (by kernel_rfl) (by kernel_rfl) (fun w hS => K.QR.k (v := .pointer (some ⟨r_26, 5, none⟩)) (by kernel_rfl)) (hS.pick [2]) ?_
       refine K.DW.q 10 (by kernel_rfl) rfl rfl (by kernel_rfl) (by kernel_rfl) (fun w hS => K.QR.ld1 (v := .int .i64 (lineOf (pushStep c ((lns c).toNat) S M).1.pc)) rfl rfl (by kernel_rfl) ((hS.blk 0 rfl h_63).cell rfl)) (hS.pick [2]) ?_
       refine K.DW.q 11 (by kernel_rfl) rfl rfl (by kernel_rfl) (by kernel_rfl) (fun w hS => K.QR.nice (v := .bool (((lineOf (pushStep c ((lns c).toNat) S M).1.pc) : Int) == (0 : Int))) (by kernel_rfl) (congrArg Value.bool (beq_eq_false_iff_ne.2 (line_f hdn_66 (by assumption))))) (hS.pick [2]) ?_
       refine K.DW.l 6 rfl (by kernel_rfl) (by kernel_rfl) (K.OW.gcall hS [3] [0, 1, 2, 4, 5, 6, 7] [.pointer (some ⟨p_22, 0, none⟩)] (pushDone_ok _ _ _ (pushStep c ((lns c).toNat) S M).1 _ h_56) ?_)
       clear hS; rintro _ _ w ⟨rfl, (⟨rfl, h_67⟩ | ⟨rfl, h_68⟩)⟩ hS
       ·
        exfalso; omega
       ·
        replace hS : K.Sat w0 [g_54, l_55, l_62, g_61, gl_12, g_5, g_2, fr] w := hS
        refine ⟨.inl (hS.pick [3]), ?_⟩
        refine K.DW.l 12 rfl (by kernel_rfl) (by kernel_rfl) (K.OW.q rfl (K.QR.k (v := .bool false) (by kernel_rfl)) ?_)
        refine ⟨.inl (hS.pick [3]), ?_⟩
        refine K.DW.l 13 rfl (by kernel_rfl) rfl (K.OW.q rfl (K.QR.k (v := .bool false) (by kernel_rfl)) ?_)
        refine ⟨.inl (hS.pick [3]), ?_⟩
        refine K.DW.done (by kernel_rfl) ?_
        refine K.t (K.f (K.k ?_))
        refine K.blk_normal ?_
        refine K.t (K.g (K.q [.int .i64 ((j : Nat) : Int)] ?_))
        refine K.a (K.QR.n64 ((((j : Nat) : Int) : Int) + (1 : Int)) ((j + 1 : Nat) : Int) (by kernel_rfl) (by omega)) ?_
        refine K.q [.int .i64 ((j + 1 : Nat) : Int)] (K.z (K.t ?_))
        refine ⟨_, ?_, j + 1, (pushStep c ((lns c).toNat) S M).1, ((pushStep c ((lns c).toNat) S M).2), g_54, g_61, l_55, l_62, rfl, ⟨by rfl, by rfl, by rfl, by rfl, by rfl, by rfl, by rfl, by rfl, by rfl, trivial⟩, (by omega), (by assumption), (by assumption), (by assumption), h_56, h_63, x_57, x_64, hS.pick [3, 0, 4, 1, 2, 5, 6, 7]⟩
        omega
      ·
       refine K.q [.pointer (some ⟨r_26, 0, none⟩), .pointer (some ⟨r_26, 0, none⟩), .pointer (some ⟨r_26, 5, none⟩)] ?_
       refine K.d (.int .i64 (lineOf (pushStep c ((lns c).toNat) S M).1.pc)) ((hS.blk 0 rfl h_63).cell rfl) ?_
       refine K.ye ((lineOf (pushStep c ((lns c).toNat) S M).1.pc) : Int) (0 : Int) (line_t (of_decide_eq_true hb_65)) ?_
       refine K.q [.bool false] (K.z (K.t (K.f (K.k (K.t (K.s ?_))))))
       have hdn_69 := of_decide_eq_true hb_65
       refine K.KW.gdrawn [0] hS (by kernel_rfl) ?_
       clear hS; intro w hS
       refine K.DW.q 0 (by kernel_rfl) rfl rfl (by kernel_rfl) rfl (fun w hS => K.QR.k (v := .pointer (some ⟨p_8, 0, none⟩)) (by kernel_rfl)) (hS.pick [0]) ?_
       refine K.DW.l 1 rfl (by kernel_rfl) rfl (K.OW.q rfl (K.QR.k (v := .pointer (some ⟨r_10, 0, none⟩)) (by kernel_rfl)) ?_)
       refine ⟨.inl (hS.pick [0]), ?_⟩
       refine K.DW.l 2 rfl (by kernel_rfl) rfl (K.OW.gcall hS [4, 1] [0, 2, 3, 5, 6, 7] [.pointer (some ⟨p_8, 0, none⟩), .pointer (some ⟨r_10, 0, none⟩)] (same7_ok _ _ _ _ _ _ _ _ _ _ x_57 x_64) ?_)
       clear hS; rintro _ _ w ⟨rfl, rfl⟩ hS
       replace hS : K.Sat w0 [l_55, l_62, g_61, g_54, gl_12, g_5, g_2, fr] w := hS
       refine ⟨.inl (hS.pick [2]), ?_⟩
       refine K.DW.l 3 rfl (by kernel_rfl) rfl (K.OW.q rfl (K.QR.k (v := .bool false) (by kernel_rfl)) ?_)
       refine ⟨.inl (hS.pick [2]), ?_⟩
       refine K.DW.l 4 rfl (by kernel_rfl) rfl (K.OW.q rfl (K.QR.k (v := .bool false) (by kernel_rfl)) ?_)
       refine ⟨.inl (hS.pick [2]), ?_⟩
       refine K.DW.q 5 (by kernel_rfl) rfl rfl (by kernel_rfl) (by kernel_rfl) (fun w hS => K.QR.k (v := .pointer (some ⟨p_22, 0, none⟩)) (by kernel_rfl)) (hS.pick [2]) ?_
       refine K.DW.q 7 (by kernel_rfl) rfl rfl (by kernel_rfl) (by kernel_rfl) (fun w hS => K.QR.k (v := .pointer (some ⟨r_26, 0, none⟩)) (by kernel_rfl)) (hS.pick [2]) ?_
       refine K.DW.q 8 (by kernel_rfl) rfl rfl (by kernel_rfl) (by kernel_rfl) (fun w hS => K.QR.k (v := .pointer (some ⟨r_26, 0, none⟩)) (by kernel_rfl)) (hS.pick [2]) ?_
       refine K.DW.q 9 (by kernel_rfl) rfl rfl (by kernel_rfl) (by kernel_rfl) (fun w hS => K.QR.k (v := .pointer (some ⟨r_26, 5, none⟩)) (by kernel_rfl)) (hS.pick [2]) ?_
       refine K.DW.q 10 (by kernel_rfl) rfl rfl (by kernel_rfl) (by kernel_rfl) (fun w hS => K.QR.ld1 (v := .int .i64 (lineOf (pushStep c ((lns c).toNat) S M).1.pc)) rfl rfl (by kernel_rfl) ((hS.blk 0 rfl h_63).cell rfl)) (hS.pick [2]) ?_
       refine K.DW.q 11 (by kernel_rfl) rfl rfl (by kernel_rfl) (by kernel_rfl) (fun w hS => K.QR.nice (v := .bool (((lineOf (pushStep c ((lns c).toNat) S M).1.pc) : Int) == (0 : Int))) (by kernel_rfl) (congrArg Value.bool (beq_iff_eq.2 (line_t hdn_69)))) (hS.pick [2]) ?_
       refine K.DW.l 6 rfl (by kernel_rfl) (by kernel_rfl) (K.OW.gcall hS [3] [0, 1, 2, 4, 5, 6, 7] [.pointer (some ⟨p_22, 0, none⟩)] (pushDone_ok _ _ _ (pushStep c ((lns c).toNat) S M).1 _ h_56) ?_)
       clear hS; rintro _ _ w ⟨rfl, (⟨rfl, h_70⟩ | ⟨rfl, h_71⟩)⟩ hS
       ·
        replace hS : K.Sat w0 [g_54, l_55, l_62, g_61, gl_12, g_5, g_2, fr] w := hS
        refine ⟨.inl (hS.pick [3]), ?_⟩
        refine K.DW.l 12 rfl (by kernel_rfl) (by kernel_rfl) (K.OW.q rfl (K.QR.k (v := .bool false) (by kernel_rfl)) ?_)
        refine ⟨.inl (hS.pick [3]), ?_⟩
        refine K.DW.l 13 rfl (by kernel_rfl) rfl (K.OW.q rfl (K.QR.k (v := .bool false) (by kernel_rfl)) ?_)
        refine ⟨.inl (hS.pick [3]), ?_⟩
        refine K.DW.done (by kernel_rfl) ?_
        refine K.t (K.f (K.k ?_))
        refine K.blk_normal ?_
        refine K.t (K.g (K.q [.int .i64 ((j : Nat) : Int)] ?_))
        refine K.a (K.QR.n64 ((((j : Nat) : Int) : Int) + (1 : Int)) ((j + 1 : Nat) : Int) (by kernel_rfl) (by omega)) ?_
        refine K.q [.int .i64 ((j + 1 : Nat) : Int)] (K.z (K.t ?_))
        refine ⟨_, ?_, j + 1, (pushStep c ((lns c).toNat) S M).1, ((pushStep c ((lns c).toNat) S M).2), g_54, g_61, l_55, l_62, rfl, ⟨by rfl, by rfl, by rfl, by rfl, by rfl, by rfl, by rfl, by rfl, by rfl, trivial⟩, (by omega), (by assumption), (by assumption), (by assumption), h_56, h_63, x_57, x_64, hS.pick [3, 0, 4, 1, 2, 5, 6, 7]⟩
        omega
       ·
        exfalso; omega
    ·
     refine K.x ((((j : Nat) : Int) : Int) < (((ls.length : Nat) : Int) : Int)) h_40 ?_
     refine K.z (K.t (K.f ?_))
     refine K.KW.exit ?_
     refine K.thn_exit ?_
     refine K.thn_exit ?_
     refine K.blk_hit ?_
     refine K.t (K.s (K.g ?_))
     refine K.l (K.OW.gcall hS [] [0, 1, 2, 3, 4, 5, 6, 7] [] (awake09_ok _) ?_)
     clear hS; rintro _ _ w ⟨rfl, rfl⟩ hS
     replace hS : K.Sat w0 [h1, g1, gl_12, l1, m1, g_5, g_2, fr] w := hS
     refine K.q [.bool true] (K.z (K.t (K.r ?_)))
     refine ⟨.inr rfl, rfl, (.bool true), K.res1 rfl rfl, [], ?_, hS.pick [7]⟩
     exact rfl
 ·
  replace hS : K.Sat w0 [g_5, g_2, fr] w := hS.of (by simp [K.pick, K.nth])
  refine K.q [.tuple #[.pointer none, .pointer none, .pointer none, .bool false], .pointer none, .pointer none, .pointer none, .bool false, .pointer none, .pointer none, .pointer none, .bool false] (K.z (K.t (K.s (K.s (K.g (K.q [.bool false, .bool true, .bool true] ?_))))))
  refine K.RW.skip rfl (by kernel_rfl) ?_
  refine K.RW.skip rfl (by kernel_rfl) ?_
  refine K.RW.skip rfl (by kernel_rfl) ?_
  refine K.q [.bool true] (K.z (K.t (K.h (K.s (K.g ?_)))))
  refine K.l (K.OW.gcall hS [] [0, 1, 2] [] (awake09_ok _) ?_)
  clear hS; rintro _ _ w ⟨rfl, rfl⟩ hS
  replace hS : K.Sat w0 [g_5, g_2, fr] w := hS
  refine K.q [.bool true] (K.z (K.t (K.r (K.u ?_))))
  refine ⟨.inr rfl, rfl, (.bool true), K.res1 rfl rfl, [], ?_, hS.pick [2]⟩
  exact rfl

end Go.Proofs.YtajkickofkeemaaGreat
