/- The statement SeekSteps. -/
import Derived.Test.YtbfafebfkdbglaaGreatFl14
import Derived.Test.YtbfafebfkdbglaaGreatKn
namespace Go.Proofs.YtbfafebfkdbglaaGreat
open Go.RowKit
set_option linter.unusedVariables false
attribute [local irreducible] K.KW K.RW K.DW K.OW K.QR K.KC
set_option maxHeartbeats 1000000 in
set_option maxRecDepth 100000 in
theorem l14steps_ok (w0 : World) (c : Cfg) (pa : Option Addr) (cp : Nat) (ps : List PutM) (hg : ∀ j, j < ps.length → isInt (ps.getD j pu0).at_ ∧ isW (ps.getD j pu0).w) (hxp : K.RowE w0 pa ps.length 2 (fun i => cPut (ps.getD i pu0))) (tt hh kk : Int) (htt : isInt tt) (hhh : isInt hh) (hkk : 0 ≤ kk ∧ kk ≤ 4294967295) (b : Option Addr) (cap2 : Nat) (ls : List PokeM) (hk : ∀ j, j < ls.length → (ls.getD j pk0).act.good ∧ isW (ls.getD j pk0).act.w) (hl : ls.length ≤ 9223372036854775807) (hy : K.RowE w0 b ls.length 6 (fun i => cPoke (ls.getD i pk0))) :
  K.GC Tryz.prog w0 4 #[.agg #[.int .i64 c.th, .int .i64 c.sl, .int .i64 c.lo, .int .i64 c.bu, .slice pa ps.length cp], .agg #[.int .i64 tt, .int .i64 hh, .int .u32 kk], .slice b ls.length cap2] [] (fun v post => v = .bool true) := by
 refine K.GC.mk (n := 190) Tryz.func4 rfl rfl [.agg #[.int .i64 c.th, .int .i64 c.sl, .int .i64 c.lo, .int .i64 c.bu, .slice pa ps.length cp], .agg #[.int .i64 tt, .int .i64 hh, .int .u32 kk], .slice b ls.length cap2] rfl rfl ?_
 intro fr w hS
 replace hS : K.Sat w0 [fr] w := hS
 refine K.s (K.g ?_)
 refine K.l (K.OW.gnew 38 [.int .i64 c.th, .int .i64 c.sl, .int .i64 c.lo, .int .i64 c.bu, .slice pa ps.length cp] hS ?_)
 clear hS; intro w r_1 g_2 hg_3 hS
 refine K.l (K.OW.gnew 53 [.int .i64 tt, .int .i64 hh, .int .u32 kk] hS ?_)
 clear hS; intro w r_4 g_5 hg_6 hS
 refine K.q [.bool false] (K.z (K.t (K.s (K.g ?_))))
 refine K.a (K.QR.ldN [.int .i64 c.th, .int .i64 c.sl, .int .i64 c.lo, .int .i64 c.bu, .slice pa ps.length cp] rfl rfl (by kernel_rfl) (by kernel_rfl) (K.cells (K.cl ((hS.blk 1 rfl hg_3).cell rfl) (K.cl ((hS.blk 1 rfl hg_3).cell rfl) (K.cl ((hS.blk 1 rfl hg_3).cell rfl) (K.cl ((hS.blk 1 rfl hg_3).cell rfl) (K.cl ((hS.blk 1 rfl hg_3).cell rfl) K.cl0))))))) ?_
 refine K.l (K.OW.gcall hS [53] [0, 1, 2] [.agg #[.int .i64 c.th, .int .i64 c.sl, .int .i64 c.lo, .int .i64 c.bu, .slice pa ps.length cp]] (lay_ok _ c _ _ ps (fun j hj => (hg j hj).1) _ (fun w h => hxp.no h.chg)) ?_)
 clear hS; rintro _ _ w (⟨b_7, p_8, q_9, r_10, u_11, _, _, gl_12, l_13, m_14, rfl, rfl, hl_15, x_16, y_17, rfl, rfl, hf_18, hp_19⟩ | ⟨rfl, rfl, h_20⟩) hS
 ·
  replace hS : K.Sat w0 [gl_12, l_13, m_14, g_5, g_2, fr] w := hS.of (by simp [K.pick, K.nth])
  have hc : cfgOk c := hf_18.1
  obtain ⟨hfa, hfb⟩ : (((1 ≤ c.th ∧ c.th ≤ 64) ∧ (1 ≤ c.sl ∧ c.sl ≤ 65536) ∧ (1 ≤ c.lo ∧ c.lo ≤ 64) ∧ (1 ≤ c.bu ∧ c.bu ≤ 64)) ∧ (c.th ≤ 6 ∧ c.sl ≤ 30 ∧ c.lo ≤ 8 ∧ c.bu ≤ 8)) := (by have h := hf_18; unfold fewC cfgOk at h; exact h)
  have hM : (groundM ((lns c).toNat) (c.th.toNat) (2 + c.th + c.sl).toNat ps).good := ground_good (fun j hj => (hg j hj).2)
  have hP : (((groundM ((lns c).toNat) (c.th.toNat) (2 + c.th + c.sl).toNat ps).pass.length : Nat) : Int) = 2 + c.th + c.sl := by rw [ground_pass]; omega
  refine K.q [.tuple #[.pointer (some ⟨b_7, 0, none⟩), .pointer (some ⟨p_8, 0, none⟩), .pointer (some ⟨r_10, 0, none⟩), .bool true], .pointer (some ⟨b_7, 0, none⟩), .pointer (some ⟨p_8, 0, none⟩), .pointer (some ⟨r_10, 0, none⟩), .bool true, .pointer (some ⟨b_7, 0, none⟩), .pointer (some ⟨p_8, 0, none⟩), .pointer (some ⟨r_10, 0, none⟩), .bool true] (K.z (K.t (K.s (K.s (K.g (K.q [.bool true, .bool false, .bool false, .slice b ls.length cap2] ?_))))))
  refine K.a (K.QR.len (P := Tryz.prog) rfl rfl Tryz.underlying54) ?_
  by_cases h_21 : (((ls.length : Nat) : Int) : Int) > (120 : Int)
  ·
   refine K.y ((((ls.length : Nat) : Int) : Int) > (120 : Int)) h_21 ?_
   refine K.q [.bool true] (K.z (K.t (K.h (K.s (K.g ?_)))))
   refine K.l (K.OW.gcall hS [] [0, 1, 2, 3, 4, 5] [] (awake14_ok _) ?_)
   clear hS; rintro _ _ w ⟨rfl, rfl⟩ hS
   replace hS : K.Sat w0 [gl_12, l_13, m_14, g_5, g_2, fr] w := hS
   refine K.q [.bool true] (K.z (K.t (K.r (K.u ?_))))
   refine ⟨.inr rfl, rfl, (.bool true), K.res1 rfl rfl, [], ?_, hS.pick [5]⟩
   exact rfl
  ·
   refine K.x ((((ls.length : Nat) : Int) : Int) > (120 : Int)) h_21 ?_
   refine K.q [.bool false] (K.z (K.t (K.f (K.k (K.t (K.s ?_))))))
   refine K.KW.gdrawn [3, 4] hS (by kernel_rfl) ?_
   clear hS; intro w hS
   refine K.p 0 rfl (.pointer (some ⟨b_7, 0, none⟩)) (hS.pick [3, 4]) ?_
   refine K.p 1 rfl (.pointer (some ⟨r_4, 0, none⟩)) (hS.pick [3, 4]) ?_
   refine K.o_ 2 rfl (.int .i64 tt) (fun w hS => ((hS.blk 0 rfl hg_6).cell rfl)) (hS.pick [3, 4]) ?_
   refine K.p 3 rfl (.pointer (some ⟨r_4, 1, none⟩)) (hS.pick [3, 4]) ?_
   refine K.o_ 4 rfl (.int .i64 hh) (fun w hS => ((hS.blk 0 rfl hg_6).cell rfl)) (hS.pick [3, 4]) ?_
   refine K.p 5 rfl (.pointer (some ⟨r_4, 2, none⟩)) (hS.pick [3, 4]) ?_
   refine K.o_ 6 rfl (.int .u32 kk) (fun w hS => ((hS.blk 0 rfl hg_6).cell rfl)) (hS.pick [3, 4]) ?_
   refine K.p 8 rfl (.pointer (some ⟨r_1, 0, none⟩)) (hS.pick [3, 4]) ?_
   refine K.m 9 rfl (fun w hS => K.QR.ldN [.int .i64 c.th, .int .i64 c.sl, .int .i64 c.lo, .int .i64 c.bu] rfl rfl (by kernel_rfl) (by kernel_rfl) (K.cells (K.cl ((hS.blk 1 rfl hg_3).cell rfl) (K.cl ((hS.blk 1 rfl hg_3).cell rfl) (K.cl ((hS.blk 1 rfl hg_3).cell rfl) (K.cl ((hS.blk 1 rfl hg_3).cell rfl) K.cl0)))))) (hS.pick [3, 4]) ?_
   refine K.p 10 rfl (.pointer (some ⟨r_4, 0, none⟩)) (hS.pick [3, 4]) ?_
   refine K.o_ 11 rfl (.int .i64 tt) (fun w hS => ((hS.blk 0 rfl hg_6).cell rfl)) (hS.pick [3, 4]) ?_
   refine K.p 12 rfl (.pointer (some ⟨r_4, 1, none⟩)) (hS.pick [3, 4]) ?_
   refine K.o_ 13 rfl (.int .i64 hh) (fun w hS => ((hS.blk 0 rfl hg_6).cell rfl)) (hS.pick [3, 4]) ?_
   refine K.p 14 rfl (.pointer (some ⟨r_4, 2, none⟩)) (hS.pick [3, 4]) ?_
   refine K.o_ 15 rfl (.int .u32 kk) (fun w hS => ((hS.blk 0 rfl hg_6).cell rfl)) (hS.pick [3, 4]) ?_
   refine K.DW.l 7 rfl (by kernel_rfl) rfl (K.OW.gcall hS [] [0, 1, 2, 3, 4, 5] [.pointer (some ⟨b_7, 0, none⟩), .int .i64 tt, .int .i64 hh, .int .u32 kk] (newskE_ok _ b_7 tt hh kk (by omega) (by omega)) ?_)
   clear hS; rintro _ _ w ⟨p_22, g_23, rfl, rfl, h_24⟩ hS
   replace hS : K.Sat w0 [g_23, gl_12, l_13, m_14, g_5, g_2, fr] w := hS
   refine ⟨.inl (hS.pick [4, 5]), ?_⟩
   refine K.DW.l 16 rfl (by kernel_rfl) rfl (K.OW.gcall hS [] [0, 1, 2, 3, 4, 5, 6] [.agg #[.int .i64 c.th, .int .i64 c.sl, .int .i64 c.lo, .int .i64 c.bu], .int .i64 tt, .int .i64 hh, .int .u32 kk] (newdk_ok _ c tt hh kk (by omega) (by omega)) ?_)
   clear hS; rintro _ _ w ⟨p_25, g_26, q_27, rfl, rfl, ra_28, sa_29, _, h_30, k_31⟩ hS
   replace hS : K.Sat w0 [g_26, q_27, g_23, gl_12, l_13, m_14, g_5, g_2, fr] w := hS
   refine ⟨.inl (hS.pick [6, 7]), ?_⟩
   refine K.b 17 rfl (.pointer (some ⟨p_22, 0, none⟩)) (hS.pick [6, 7]) ?_
   refine K.b 18 rfl (.pointer (some ⟨p_25, 0, none⟩)) (hS.pick [6, 7]) ?_
   refine K.DW.done (by kernel_rfl) ?_
   refine K.t (K.s (K.s (K.g (K.q [.int .i64 0] (K.z (K.t ?_))))))
   refine K.KW.block ?_
   refine K.KW.loop (fun m_ F_ w_ => ∃ (j : Nat) (S : SkS) (ra : Option Addr) (sa : Option Addr) (M : MemM) (g1 : K.Cs) (h1 : K.Cs) (k1 : K.Cs) (l1 : K.Cs) (m1 : K.Cs), m_ = ls.length - j ∧ K.Sl F_ [(0, .agg #[.int .i64 c.th, .int .i64 c.sl, .int .i64 c.lo, .int .i64 c.bu, .slice pa ps.length cp]), (1, .agg #[.int .i64 tt, .int .i64 hh, .int .u32 kk]), (2, .slice b ls.length cap2), (8, .pointer (some ⟨p_8, 0, none⟩)), (9, .pointer (some ⟨r_10, 0, none⟩)), (11, .pointer (some ⟨p_22, 0, none⟩)), (12, .pointer (some ⟨p_25, 0, none⟩)), (13, .int .i64 ((j : Nat) : Int)), (190, undef)] ∧ j ≤ ls.length ∧ SkG S ∧ M.good ∧ SkEl p_22 b_7 S g1 ∧ h1 = [K.pt p_25 66 [.int .i64 c.th, .int .i64 c.sl, .int .i64 c.lo, .int .i64 c.bu, .int .i64 S.t, .int .i64 S.head, .int .u32 S.key, .int .i64 (dkLn S), .pointer ra, .pointer sa, .bool S.found, .int .i64 S.prev, .int .u64 S.word, .int .i64 S.came, .int .i64 S.curr, .int .u64 S.link, .int .i64 S.when_]] ∧ DkTail S ra sa k1 ∧ MemAt l1 p_8 q_9 ((lns c).toNat) (c.th.toNat) M ∧ RMemAt m1 r_10 u_11 ((lns c).toNat) (c.th.toNat) M ∧ K.Sat w0 [h1, k1, g1, gl_12, l1, m1, g_5, g_2, fr] w_) ((fun (j : Nat) (S : SkS) (ra : Option Addr) (sa : Option Addr) (M : MemM) => ls.length - j) 0 (⟨tt, hh, kk, 1, false, false, hh, 0, 0, 0, 0, 0, ⟨tt, hh, 0, 0, -1⟩, ⟨0, 0, 0, 0, -1, 0, false, 0⟩⟩ : SkS) ra_28 sa_29 (groundM ((lns c).toNat) (c.th.toNat) (2 + c.th + c.sl).toNat ps)) ?_ ?_
   ·
    exact ⟨0, (⟨tt, hh, kk, 1, false, false, hh, 0, 0, 0, 0, 0, ⟨tt, hh, 0, 0, -1⟩, ⟨0, 0, 0, 0, -1, 0, false, 0⟩⟩ : SkS), ra_28, sa_29, (groundM ((lns c).toNat) (c.th.toNat) (2 + c.th + c.sl).toNat ps), g_23, g_26, q_27, l_13, m_14, rfl, ⟨by rfl, by rfl, by rfl, by rfl, by rfl, by rfl, by rfl, by rfl, by rfl, trivial⟩, (by omega), (skInitG (by omega) (by omega) (by omega)), (hM), h_24, h_30, k_31, x_16, y_17, hS.pick [0, 1, 2, 3, 4, 5, 6, 7, 8]⟩
   ·
    clear hS
    intro m_32 F_33 w hI
    obtain ⟨j, S, ra, sa, M, g1, h1, k1, l1, m1, rfl, sl_34, p_35, p_36, p_37, x_38, x_39, x_40, x_41, x_42, hS⟩ := hI
    rw [← K.Sl.puts sl_34]; clear sl_34
    refine K.s (K.s (K.g (K.q [.int .i64 ((j : Nat) : Int), .slice b ls.length cap2] ?_)))
    refine K.a (K.QR.len (P := Tryz.prog) rfl rfl Tryz.underlying54) ?_
    by_cases h_43 : (((j : Nat) : Int) : Int) < (((ls.length : Nat) : Int) : Int)
    ·
     refine K.y ((((j : Nat) : Int) : Int) < (((ls.length : Nat) : Int) : Int)) h_43 ?_
     refine K.z (K.t (K.h (K.k (K.t (K.s ?_)))))
     refine K.KW.block ?_
     refine K.s (K.s ?_)
     obtain ⟨b_44, of_45, rfl, _⟩ := hy.at_ (by omega)
     refine K.g (K.q [.slice (some ⟨b_44, of_45, none⟩) ls.length cap2, .int .i64 ((j : Nat) : Int)] ?_)
     refine K.a (K.QR.ix (of_45 + j * 6) 6 rfl rfl rfl Tryz.underlying54 (by kernel_rfl) (by omega) (by first | (simp; done) | omega | (simp; omega))) ?_
     refine K.q [.pointer (some ⟨b_44, of_45 + j * 6, none⟩)] ?_
     refine K.d (.bool ((ls.getD j pk0).step)) ((hy.no hS.chg).ld j (by omega) 0 _ rfl) ?_
     cases hb_46 : (ls.getD j pk0).step
     ·
      refine K.z (K.t (K.f (K.s (K.g (K.q [.pointer (some ⟨p_8, 0, none⟩), .slice (some ⟨b_44, of_45, none⟩) ls.length cap2, .int .i64 ((j : Nat) : Int)] ?_)))))
      refine K.a (K.QR.ix (of_45 + j * 6) 6 rfl rfl rfl Tryz.underlying54 (by kernel_rfl) (by omega) (by first | (simp; done) | omega | (simp; omega))) ?_
      refine K.q [.pointer (some ⟨b_44, of_45 + j * 6 + 1, none⟩)] ?_
      refine K.a (K.QR.ldN [.int .i64 ((ls.getD j pk0).act.kind), .int .i64 ((ls.getD j pk0).act.thread), .int .i64 ((ls.getD j pk0).act.at_), .int .u64 ((ls.getD j pk0).act.old), .int .u64 ((ls.getD j pk0).act.w)] rfl rfl (by kernel_rfl) (by kernel_rfl) (K.cells (K.cl ((hy.no hS.chg).ld j (by omega) 1 _ rfl) (K.cl ((hy.no hS.chg).ld j (by omega) 2 _ rfl) (K.cl ((hy.no hS.chg).ld j (by omega) 3 _ rfl) (K.cl ((hy.no hS.chg).ld j (by omega) 4 _ rfl) (K.cl ((hy.no hS.chg).ld j (by omega) 5 _ rfl) K.cl0))))))) ?_
      refine K.l (K.OW.gcall hS [4] [0, 1, 2, 3, 5, 6, 7, 8] [.pointer (some ⟨p_8, 0, none⟩), .agg #[.int .i64 ((ls.getD j pk0).act.kind), .int .i64 ((ls.getD j pk0).act.thread), .int .i64 ((ls.getD j pk0).act.at_), .int .u64 ((ls.getD j pk0).act.old), .int .u64 ((ls.getD j pk0).act.w)]] (do7_ok _ _ _ _ _ _ _ x_41 (ls.getD j pk0).act (hk j (by omega)).1) ?_)
      clear hS; rintro _ _ w ⟨l_47, rfl, rfl, x_48⟩ hS
      replace hS : K.Sat w0 [l_47, h1, k1, g1, gl_12, m1, g_5, g_2, fr] w := hS
      have hM_49 : (act7 M ((lns c).toNat) (c.th.toNat) (ls.getD j pk0).act).good := act7_good (by assumption) (hk j (by omega)).2
      refine K.z (K.t (K.g (K.q [.pointer (some ⟨r_10, 0, none⟩), .slice (some ⟨b_44, of_45, none⟩) ls.length cap2, .int .i64 ((j : Nat) : Int)] ?_)))
      refine K.a (K.QR.ix (of_45 + j * 6) 6 rfl rfl rfl Tryz.underlying54 (by kernel_rfl) (by omega) (by first | (simp; done) | omega | (simp; omega))) ?_
      refine K.q [.pointer (some ⟨b_44, of_45 + j * 6 + 1, none⟩)] ?_
      refine K.a (K.QR.ldN [.int .i64 ((ls.getD j pk0).act.kind), .int .i64 ((ls.getD j pk0).act.thread), .int .i64 ((ls.getD j pk0).act.at_), .int .u64 ((ls.getD j pk0).act.old), .int .u64 ((ls.getD j pk0).act.w)] rfl rfl (by kernel_rfl) (by kernel_rfl) (K.cells (K.cl ((hy.no hS.chg).ld j (by omega) 1 _ rfl) (K.cl ((hy.no hS.chg).ld j (by omega) 2 _ rfl) (K.cl ((hy.no hS.chg).ld j (by omega) 3 _ rfl) (K.cl ((hy.no hS.chg).ld j (by omega) 4 _ rfl) (K.cl ((hy.no hS.chg).ld j (by omega) 5 _ rfl) K.cl0))))))) ?_
      refine K.l (K.OW.gcall hS [5] [0, 1, 2, 3, 4, 6, 7, 8] [.pointer (some ⟨r_10, 0, none⟩), .agg #[.int .i64 ((ls.getD j pk0).act.kind), .int .i64 ((ls.getD j pk0).act.thread), .int .i64 ((ls.getD j pk0).act.at_), .int .u64 ((ls.getD j pk0).act.old), .int .u64 ((ls.getD j pk0).act.w)]] (must7_ok _ _ _ _ _ _ _ x_42 (ls.getD j pk0).act (hk j (by omega)).1) ?_)
      clear hS; rintro _ _ w ⟨l_50, rfl, rfl, x_51⟩ hS
      replace hS : K.Sat w0 [l_50, l_47, h1, k1, g1, gl_12, g_5, g_2, fr] w := hS
      refine K.z (K.t (K.s ?_))
      cases hb_52 : S.done
      ·
       refine K.KW.gdrawn [2] hS (by kernel_rfl) ?_
       clear hS; intro w hS
       refine K.p 0 rfl (.pointer (some ⟨p_8, 0, none⟩)) (hS.pick [2]) ?_
       refine K.b 1 rfl (.pointer (some ⟨r_10, 0, none⟩)) (hS.pick [2]) ?_
       refine K.DW.l 2 rfl (by kernel_rfl) rfl (K.OW.gcall hS [1, 0] [2, 3, 4, 5, 6, 7, 8] [.pointer (some ⟨p_8, 0, none⟩), .pointer (some ⟨r_10, 0, none⟩)] (same7_ok _ _ _ _ _ _ _ _ _ _ x_48 x_51) ?_)
       clear hS; rintro _ _ w ⟨rfl, rfl⟩ hS
       replace hS : K.Sat w0 [l_47, l_50, h1, k1, g1, gl_12, g_5, g_2, fr] w := hS
       refine ⟨.inl (hS.pick [2]), ?_⟩
       refine K.b 3 rfl (.bool false) (hS.pick [2]) ?_
       refine K.b 4 rfl (.bool false) (hS.pick [2]) ?_
       refine K.p 5 rfl (.pointer (some ⟨p_22, 0, none⟩)) (hS.pick [2]) ?_
       refine K.p 7 rfl (.pointer (some ⟨p_25, 0, none⟩)) (hS.pick [2]) ?_
       refine K.p 8 rfl (.pointer (some ⟨p_25, 0, none⟩)) (hS.pick [2]) ?_
       refine K.p 9 rfl (.pointer (some ⟨p_25, 7, none⟩)) (hS.pick [2]) ?_
       refine K.o_ 10 rfl (.int .i64 (dkLn S)) (fun w hS => ((hS.blk 0 rfl x_39).cell rfl)) (hS.pick [2]) ?_
       refine K.m 11 rfl (fun w hS => K.QR.nice (v := .bool (((dkLn S) : Int) == (0 : Int))) (by kernel_rfl) (congrArg Value.bool (beq_eq_false_iff_ne.2 (dk_nz hb_52 (SkG.good (by assumption)))))) (hS.pick [2]) ?_
       refine K.DW.l 6 rfl (by kernel_rfl) (by kernel_rfl) (K.OW.gcall hS [4] [0, 1, 2, 3, 5, 6, 7, 8] [.pointer (some ⟨p_22, 0, none⟩)] (skDoneE_ok _ _ _ S _ x_38) ?_)
       clear hS; rintro _ _ w ⟨rfl, rfl⟩ hS
       replace hS : K.Sat w0 [g1, l_47, l_50, h1, k1, gl_12, g_5, g_2, fr] w := hS
       refine ⟨.inl (hS.pick [3]), ?_⟩
       cases hb_53 : S.done
       ·
        refine K.b 12 rfl (.bool false) (hS.pick [3]) ?_
        refine K.b 13 rfl (.bool false) (hS.pick [3]) ?_
        refine K.DW.done (by kernel_rfl) ?_
        refine K.t (K.f (K.k ?_))
        refine K.blk_normal ?_
        refine K.t (K.g (K.q [.int .i64 ((j : Nat) : Int)] ?_))
        refine K.a (K.QR.n64 ((((j : Nat) : Int) : Int) + (1 : Int)) ((j + 1 : Nat) : Int) (by kernel_rfl) (by omega)) ?_
        refine K.q [.int .i64 ((j + 1 : Nat) : Int)] (K.z (K.t ?_))
        refine ⟨_, ?_, j + 1, S, ra, sa, (act7 M ((lns c).toNat) (c.th.toNat) (ls.getD j pk0).act), g1, h1, k1, l_47, l_50, rfl, ⟨by rfl, by rfl, by rfl, by rfl, by rfl, by rfl, by rfl, by rfl, by rfl, trivial⟩, (by omega), (by assumption), (by assumption), x_38, x_39, x_40, x_48, x_51, hS.pick [3, 4, 0, 5, 1, 2, 6, 7, 8]⟩
        omega
       ·cases (hb_53.symm.trans (show S.done = false from hb_52))
      ·
       refine K.KW.gdrawn [2] hS (by kernel_rfl) ?_
       clear hS; intro w hS
       refine K.p 0 rfl (.pointer (some ⟨p_8, 0, none⟩)) (hS.pick [2]) ?_
       refine K.b 1 rfl (.pointer (some ⟨r_10, 0, none⟩)) (hS.pick [2]) ?_
       refine K.DW.l 2 rfl (by kernel_rfl) rfl (K.OW.gcall hS [1, 0] [2, 3, 4, 5, 6, 7, 8] [.pointer (some ⟨p_8, 0, none⟩), .pointer (some ⟨r_10, 0, none⟩)] (same7_ok _ _ _ _ _ _ _ _ _ _ x_48 x_51) ?_)
       clear hS; rintro _ _ w ⟨rfl, rfl⟩ hS
       replace hS : K.Sat w0 [l_47, l_50, h1, k1, g1, gl_12, g_5, g_2, fr] w := hS
       refine ⟨.inl (hS.pick [2]), ?_⟩
       refine K.b 3 rfl (.bool false) (hS.pick [2]) ?_
       refine K.b 4 rfl (.bool false) (hS.pick [2]) ?_
       refine K.p 5 rfl (.pointer (some ⟨p_22, 0, none⟩)) (hS.pick [2]) ?_
       refine K.p 7 rfl (.pointer (some ⟨p_25, 0, none⟩)) (hS.pick [2]) ?_
       refine K.p 8 rfl (.pointer (some ⟨p_25, 0, none⟩)) (hS.pick [2]) ?_
       refine K.p 9 rfl (.pointer (some ⟨p_25, 7, none⟩)) (hS.pick [2]) ?_
       refine K.o_ 10 rfl (.int .i64 (dkLn S)) (fun w hS => ((hS.blk 0 rfl x_39).cell rfl)) (hS.pick [2]) ?_
       refine K.m 11 rfl (fun w hS => K.QR.nice (v := .bool (((dkLn S) : Int) == (0 : Int))) (by kernel_rfl) (congrArg Value.bool (beq_iff_eq.2 (dk_t hb_52)))) (hS.pick [2]) ?_
       refine K.DW.l 6 rfl (by kernel_rfl) (by kernel_rfl) (K.OW.gcall hS [4] [0, 1, 2, 3, 5, 6, 7, 8] [.pointer (some ⟨p_22, 0, none⟩)] (skDoneE_ok _ _ _ S _ x_38) ?_)
       clear hS; rintro _ _ w ⟨rfl, rfl⟩ hS
       replace hS : K.Sat w0 [g1, l_47, l_50, h1, k1, gl_12, g_5, g_2, fr] w := hS
       refine ⟨.inl (hS.pick [3]), ?_⟩
       cases hb_54 : S.done
       ·cases (hb_54.symm.trans (show S.done = true from hb_52))
       ·
        refine K.b 12 rfl (.bool false) (hS.pick [3]) ?_
        refine K.b 13 rfl (.bool false) (hS.pick [3]) ?_
        refine K.DW.done (by kernel_rfl) ?_
        refine K.t (K.f (K.k ?_))
        refine K.blk_normal ?_
        refine K.t (K.g (K.q [.int .i64 ((j : Nat) : Int)] ?_))
        refine K.a (K.QR.n64 ((((j : Nat) : Int) : Int) + (1 : Int)) ((j + 1 : Nat) : Int) (by kernel_rfl) (by omega)) ?_
        refine K.q [.int .i64 ((j + 1 : Nat) : Int)] (K.z (K.t ?_))
        refine ⟨_, ?_, j + 1, S, ra, sa, (act7 M ((lns c).toNat) (c.th.toNat) (ls.getD j pk0).act), g1, h1, k1, l_47, l_50, rfl, ⟨by rfl, by rfl, by rfl, by rfl, by rfl, by rfl, by rfl, by rfl, by rfl, trivial⟩, (by omega), (by assumption), (by assumption), x_38, x_39, x_40, x_48, x_51, hS.pick [3, 4, 0, 5, 1, 2, 6, 7, 8]⟩
        omega
     ·
      refine K.z (K.t (K.h (K.s (K.g (K.q [.pointer (some ⟨p_22, 0, none⟩), .pointer (some ⟨p_8, 0, none⟩)] ?_)))))
      refine K.l (K.OW.gcall hS [2, 3, 4] [0, 1, 5, 6, 7, 8] [.pointer (some ⟨p_22, 0, none⟩), .pointer (some ⟨p_8, 0, none⟩)] (skStep_ok _ _ _ _ _ _ _ c (by first | assumption | (unfold cfgOk; decide)) S M _ _ _ x_38 hl_15 x_41 (by assumption) (SkG.good (by assumption))) ?_)
      clear hS; rintro _ _ w ⟨g_55, l_56, rfl, rfl, h_57, x_58⟩ hS
      replace hS : K.Sat w0 [g_55, gl_12, l_56, h1, k1, m1, g_5, g_2, fr] w := hS
      obtain ⟨hS_59, hM_60⟩ := (SkG.step (by first | assumption | (unfold cfgOk; decide)) (by assumption) (by assumption) : SkG (skStep c ((lns c).toNat) (c.th.toNat) S M).1 ∧ (skStep c ((lns c).toNat) (c.th.toNat) S M).2.good)
      refine K.q [.bool ((skStep c ((lns c).toNat) (c.th.toNat) S M).1.done)] (K.z (K.t (K.s (K.g (K.q [.pointer (some ⟨p_25, 0, none⟩), .pointer (some ⟨r_10, 0, none⟩)] ?_)))))
      refine K.l (K.OW.gcall hS [3, 4, 5] [0, 1, 2, 6, 7, 8] [.pointer (some ⟨p_25, 0, none⟩), .pointer (some ⟨r_10, 0, none⟩)] (dkStep_ok _ _ _ _ _ _ c (by first | assumption | (unfold cfgOk; decide)) _ _ S M _ _ _ x_39 x_40 x_42 (by assumption) (SkG.good (by assumption))) ?_)
      clear hS; rintro _ _ w ⟨ra_61, sa_62, g_63, q_64, l_65, rfl, rfl, h_66, k_67, x_68⟩ hS
      replace hS : K.Sat w0 [g_63, q_64, l_65, g_55, gl_12, l_56, g_5, g_2, fr] w := hS
      refine K.z (K.t (K.s ?_))
      cases hb_69 : (skStep c ((lns c).toNat) (c.th.toNat) S M).1.done
      ·
       refine K.g (K.q [.bool false, .pointer (some ⟨p_25, 0, none⟩), .pointer (some ⟨p_25, 0, none⟩), .pointer (some ⟨p_25, 7, none⟩)] ?_)
       refine K.d (.int .i64 (dkLn (skStep c ((lns c).toNat) (c.th.toNat) S M).1)) ((hS.blk 0 rfl h_66).cell rfl) ?_
       refine K.xe ((dkLn (skStep c ((lns c).toNat) (c.th.toNat) S M).1) : Int) (0 : Int) (dk_nz hb_69 (SkG.good (by assumption))) ?_
       refine K.q [.bool false] (K.z (K.t (K.f (K.k (K.t (K.s ?_))))))
       cases hb_70 : ((skStep c ((lns c).toNat) (c.th.toNat) S M).1).done
       ·
        refine K.KW.gdrawn [0] hS (by kernel_rfl) ?_
        clear hS; intro w hS
        refine K.p 0 rfl (.pointer (some ⟨p_8, 0, none⟩)) (hS.pick [0]) ?_
        refine K.b 1 rfl (.pointer (some ⟨r_10, 0, none⟩)) (hS.pick [0]) ?_
        refine K.DW.l 2 rfl (by kernel_rfl) rfl (K.OW.gcall hS [5, 2] [0, 1, 3, 4, 6, 7, 8] [.pointer (some ⟨p_8, 0, none⟩), .pointer (some ⟨r_10, 0, none⟩)] (same7_ok _ _ _ _ _ _ _ _ _ _ x_58 x_68) ?_)
        clear hS; rintro _ _ w ⟨rfl, rfl⟩ hS
        replace hS : K.Sat w0 [l_56, l_65, g_63, q_64, g_55, gl_12, g_5, g_2, fr] w := hS
        refine ⟨.inl (hS.pick [2]), ?_⟩
        refine K.b 3 rfl (.bool false) (hS.pick [2]) ?_
        refine K.b 4 rfl (.bool false) (hS.pick [2]) ?_
        refine K.p 5 rfl (.pointer (some ⟨p_22, 0, none⟩)) (hS.pick [2]) ?_
        refine K.p 7 rfl (.pointer (some ⟨p_25, 0, none⟩)) (hS.pick [2]) ?_
        refine K.p 8 rfl (.pointer (some ⟨p_25, 0, none⟩)) (hS.pick [2]) ?_
        refine K.p 9 rfl (.pointer (some ⟨p_25, 7, none⟩)) (hS.pick [2]) ?_
        refine K.o_ 10 rfl (.int .i64 (dkLn (skStep c ((lns c).toNat) (c.th.toNat) S M).1)) (fun w hS => ((hS.blk 0 rfl h_66).cell rfl)) (hS.pick [2]) ?_
        refine K.m 11 rfl (fun w hS => K.QR.nice (v := .bool (((dkLn (skStep c ((lns c).toNat) (c.th.toNat) S M).1) : Int) == (0 : Int))) (by kernel_rfl) (congrArg Value.bool (beq_eq_false_iff_ne.2 (dk_nz hb_70 (SkG.good (by assumption)))))) (hS.pick [2]) ?_
        refine K.DW.l 6 rfl (by kernel_rfl) (by kernel_rfl) (K.OW.gcall hS [4] [0, 1, 2, 3, 5, 6, 7, 8] [.pointer (some ⟨p_22, 0, none⟩)] (skDoneE_ok _ _ _ ((skStep c ((lns c).toNat) (c.th.toNat) S M).1) _ h_57) ?_)
        clear hS; rintro _ _ w ⟨rfl, rfl⟩ hS
        replace hS : K.Sat w0 [g_55, l_56, l_65, g_63, q_64, gl_12, g_5, g_2, fr] w := hS
        refine ⟨.inl (hS.pick [3]), ?_⟩
        cases hb_71 : ((skStep c ((lns c).toNat) (c.th.toNat) S M).1).done
        ·
         refine K.b 12 rfl (.bool false) (hS.pick [3]) ?_
         refine K.b 13 rfl (.bool false) (hS.pick [3]) ?_
         refine K.DW.done (by kernel_rfl) ?_
         refine K.t (K.f (K.k ?_))
         refine K.blk_normal ?_
         refine K.t (K.g (K.q [.int .i64 ((j : Nat) : Int)] ?_))
         refine K.a (K.QR.n64 ((((j : Nat) : Int) : Int) + (1 : Int)) ((j + 1 : Nat) : Int) (by kernel_rfl) (by omega)) ?_
         refine K.q [.int .i64 ((j + 1 : Nat) : Int)] (K.z (K.t ?_))
         refine ⟨_, ?_, j + 1, ((skStep c ((lns c).toNat) (c.th.toNat) S M).1), ra_61, sa_62, ((skStep c ((lns c).toNat) (c.th.toNat) S M).2), g_55, g_63, q_64, l_56, l_65, rfl, ⟨by rfl, by rfl, by rfl, by rfl, by rfl, by rfl, by rfl, by rfl, by rfl, trivial⟩, (by omega), (by assumption), (by assumption), h_57, h_66, k_67, x_58, x_68, hS.pick [3, 4, 0, 5, 1, 2, 6, 7, 8]⟩
         omega
        ·cases (hb_71.symm.trans (show ((skStep c ((lns c).toNat) (c.th.toNat) S M).1).done = false from hb_70))
       ·
        refine K.KW.gdrawn [0] hS (by kernel_rfl) ?_
        clear hS; intro w hS
        refine K.p 0 rfl (.pointer (some ⟨p_8, 0, none⟩)) (hS.pick [0]) ?_
        refine K.b 1 rfl (.pointer (some ⟨r_10, 0, none⟩)) (hS.pick [0]) ?_
        refine K.DW.l 2 rfl (by kernel_rfl) rfl (K.OW.gcall hS [5, 2] [0, 1, 3, 4, 6, 7, 8] [.pointer (some ⟨p_8, 0, none⟩), .pointer (some ⟨r_10, 0, none⟩)] (same7_ok _ _ _ _ _ _ _ _ _ _ x_58 x_68) ?_)
        clear hS; rintro _ _ w ⟨rfl, rfl⟩ hS
        replace hS : K.Sat w0 [l_56, l_65, g_63, q_64, g_55, gl_12, g_5, g_2, fr] w := hS
        refine ⟨.inl (hS.pick [2]), ?_⟩
        refine K.b 3 rfl (.bool false) (hS.pick [2]) ?_
        refine K.b 4 rfl (.bool false) (hS.pick [2]) ?_
        refine K.p 5 rfl (.pointer (some ⟨p_22, 0, none⟩)) (hS.pick [2]) ?_
        refine K.p 7 rfl (.pointer (some ⟨p_25, 0, none⟩)) (hS.pick [2]) ?_
        refine K.p 8 rfl (.pointer (some ⟨p_25, 0, none⟩)) (hS.pick [2]) ?_
        refine K.p 9 rfl (.pointer (some ⟨p_25, 7, none⟩)) (hS.pick [2]) ?_
        refine K.o_ 10 rfl (.int .i64 (dkLn (skStep c ((lns c).toNat) (c.th.toNat) S M).1)) (fun w hS => ((hS.blk 0 rfl h_66).cell rfl)) (hS.pick [2]) ?_
        refine K.m 11 rfl (fun w hS => K.QR.nice (v := .bool (((dkLn (skStep c ((lns c).toNat) (c.th.toNat) S M).1) : Int) == (0 : Int))) (by kernel_rfl) (congrArg Value.bool (beq_iff_eq.2 (dk_t hb_70)))) (hS.pick [2]) ?_
        refine K.DW.l 6 rfl (by kernel_rfl) (by kernel_rfl) (K.OW.gcall hS [4] [0, 1, 2, 3, 5, 6, 7, 8] [.pointer (some ⟨p_22, 0, none⟩)] (skDoneE_ok _ _ _ ((skStep c ((lns c).toNat) (c.th.toNat) S M).1) _ h_57) ?_)
        clear hS; rintro _ _ w ⟨rfl, rfl⟩ hS
        replace hS : K.Sat w0 [g_55, l_56, l_65, g_63, q_64, gl_12, g_5, g_2, fr] w := hS
        refine ⟨.inl (hS.pick [3]), ?_⟩
        cases hb_72 : ((skStep c ((lns c).toNat) (c.th.toNat) S M).1).done
        ·cases (hb_72.symm.trans (show ((skStep c ((lns c).toNat) (c.th.toNat) S M).1).done = true from hb_70))
        ·
         refine K.b 12 rfl (.bool false) (hS.pick [3]) ?_
         refine K.b 13 rfl (.bool false) (hS.pick [3]) ?_
         refine K.DW.done (by kernel_rfl) ?_
         refine K.t (K.f (K.k ?_))
         refine K.blk_normal ?_
         refine K.t (K.g (K.q [.int .i64 ((j : Nat) : Int)] ?_))
         refine K.a (K.QR.n64 ((((j : Nat) : Int) : Int) + (1 : Int)) ((j + 1 : Nat) : Int) (by kernel_rfl) (by omega)) ?_
         refine K.q [.int .i64 ((j + 1 : Nat) : Int)] (K.z (K.t ?_))
         refine ⟨_, ?_, j + 1, ((skStep c ((lns c).toNat) (c.th.toNat) S M).1), ra_61, sa_62, ((skStep c ((lns c).toNat) (c.th.toNat) S M).2), g_55, g_63, q_64, l_56, l_65, rfl, ⟨by rfl, by rfl, by rfl, by rfl, by rfl, by rfl, by rfl, by rfl, by rfl, trivial⟩, (by omega), (by assumption), (by assumption), h_57, h_66, k_67, x_58, x_68, hS.pick [3, 4, 0, 5, 1, 2, 6, 7, 8]⟩
         omega
      ·
       refine K.g (K.q [.bool true, .pointer (some ⟨p_25, 0, none⟩), .pointer (some ⟨p_25, 0, none⟩), .pointer (some ⟨p_25, 7, none⟩)] ?_)
       refine K.d (.int .i64 (dkLn (skStep c ((lns c).toNat) (c.th.toNat) S M).1)) ((hS.blk 0 rfl h_66).cell rfl) ?_
       refine K.ye ((dkLn (skStep c ((lns c).toNat) (c.th.toNat) S M).1) : Int) (0 : Int) (dk_t hb_69) ?_
       refine K.q [.bool false] (K.z (K.t (K.f (K.k (K.t (K.s ?_))))))
       cases hb_73 : ((skStep c ((lns c).toNat) (c.th.toNat) S M).1).done
       ·
        refine K.KW.gdrawn [0] hS (by kernel_rfl) ?_
        clear hS; intro w hS
        refine K.p 0 rfl (.pointer (some ⟨p_8, 0, none⟩)) (hS.pick [0]) ?_
        refine K.b 1 rfl (.pointer (some ⟨r_10, 0, none⟩)) (hS.pick [0]) ?_
        refine K.DW.l 2 rfl (by kernel_rfl) rfl (K.OW.gcall hS [5, 2] [0, 1, 3, 4, 6, 7, 8] [.pointer (some ⟨p_8, 0, none⟩), .pointer (some ⟨r_10, 0, none⟩)] (same7_ok _ _ _ _ _ _ _ _ _ _ x_58 x_68) ?_)
        clear hS; rintro _ _ w ⟨rfl, rfl⟩ hS
        replace hS : K.Sat w0 [l_56, l_65, g_63, q_64, g_55, gl_12, g_5, g_2, fr] w := hS
        refine ⟨.inl (hS.pick [2]), ?_⟩
        refine K.b 3 rfl (.bool false) (hS.pick [2]) ?_
        refine K.b 4 rfl (.bool false) (hS.pick [2]) ?_
        refine K.p 5 rfl (.pointer (some ⟨p_22, 0, none⟩)) (hS.pick [2]) ?_
        refine K.p 7 rfl (.pointer (some ⟨p_25, 0, none⟩)) (hS.pick [2]) ?_
        refine K.p 8 rfl (.pointer (some ⟨p_25, 0, none⟩)) (hS.pick [2]) ?_
        refine K.p 9 rfl (.pointer (some ⟨p_25, 7, none⟩)) (hS.pick [2]) ?_
        refine K.o_ 10 rfl (.int .i64 (dkLn (skStep c ((lns c).toNat) (c.th.toNat) S M).1)) (fun w hS => ((hS.blk 0 rfl h_66).cell rfl)) (hS.pick [2]) ?_
        refine K.m 11 rfl (fun w hS => K.QR.nice (v := .bool (((dkLn (skStep c ((lns c).toNat) (c.th.toNat) S M).1) : Int) == (0 : Int))) (by kernel_rfl) (congrArg Value.bool (beq_eq_false_iff_ne.2 (dk_nz hb_73 (SkG.good (by assumption)))))) (hS.pick [2]) ?_
        refine K.DW.l 6 rfl (by kernel_rfl) (by kernel_rfl) (K.OW.gcall hS [4] [0, 1, 2, 3, 5, 6, 7, 8] [.pointer (some ⟨p_22, 0, none⟩)] (skDoneE_ok _ _ _ ((skStep c ((lns c).toNat) (c.th.toNat) S M).1) _ h_57) ?_)
        clear hS; rintro _ _ w ⟨rfl, rfl⟩ hS
        replace hS : K.Sat w0 [g_55, l_56, l_65, g_63, q_64, gl_12, g_5, g_2, fr] w := hS
        refine ⟨.inl (hS.pick [3]), ?_⟩
        cases hb_74 : ((skStep c ((lns c).toNat) (c.th.toNat) S M).1).done
        ·
         refine K.b 12 rfl (.bool false) (hS.pick [3]) ?_
         refine K.b 13 rfl (.bool false) (hS.pick [3]) ?_
         refine K.DW.done (by kernel_rfl) ?_
         refine K.t (K.f (K.k ?_))
         refine K.blk_normal ?_
         refine K.t (K.g (K.q [.int .i64 ((j : Nat) : Int)] ?_))
         refine K.a (K.QR.n64 ((((j : Nat) : Int) : Int) + (1 : Int)) ((j + 1 : Nat) : Int) (by kernel_rfl) (by omega)) ?_
         refine K.q [.int .i64 ((j + 1 : Nat) : Int)] (K.z (K.t ?_))
         refine ⟨_, ?_, j + 1, ((skStep c ((lns c).toNat) (c.th.toNat) S M).1), ra_61, sa_62, ((skStep c ((lns c).toNat) (c.th.toNat) S M).2), g_55, g_63, q_64, l_56, l_65, rfl, ⟨by rfl, by rfl, by rfl, by rfl, by rfl, by rfl, by rfl, by rfl, by rfl, trivial⟩, (by omega), (by assumption), (by assumption), h_57, h_66, k_67, x_58, x_68, hS.pick [3, 4, 0, 5, 1, 2, 6, 7, 8]⟩
         omega
        ·cases (hb_74.symm.trans (show ((skStep c ((lns c).toNat) (c.th.toNat) S M).1).done = false from hb_73))
       ·
        refine K.KW.gdrawn [0] hS (by kernel_rfl) ?_
        clear hS; intro w hS
        refine K.p 0 rfl (.pointer (some ⟨p_8, 0, none⟩)) (hS.pick [0]) ?_
        refine K.b 1 rfl (.pointer (some ⟨r_10, 0, none⟩)) (hS.pick [0]) ?_
        refine K.DW.l 2 rfl (by kernel_rfl) rfl (K.OW.gcall hS [5, 2] [0, 1, 3, 4, 6, 7, 8] [.pointer (some ⟨p_8, 0, none⟩), .pointer (some ⟨r_10, 0, none⟩)] (same7_ok _ _ _ _ _ _ _ _ _ _ x_58 x_68) ?_)
        clear hS; rintro _ _ w ⟨rfl, rfl⟩ hS
        replace hS : K.Sat w0 [l_56, l_65, g_63, q_64, g_55, gl_12, g_5, g_2, fr] w := hS
        refine ⟨.inl (hS.pick [2]), ?_⟩
        refine K.b 3 rfl (.bool false) (hS.pick [2]) ?_
        refine K.b 4 rfl (.bool false) (hS.pick [2]) ?_
        refine K.p 5 rfl (.pointer (some ⟨p_22, 0, none⟩)) (hS.pick [2]) ?_
        refine K.p 7 rfl (.pointer (some ⟨p_25, 0, none⟩)) (hS.pick [2]) ?_
        refine K.p 8 rfl (.pointer (some ⟨p_25, 0, none⟩)) (hS.pick [2]) ?_
        refine K.p 9 rfl (.pointer (some ⟨p_25, 7, none⟩)) (hS.pick [2]) ?_
        refine K.o_ 10 rfl (.int .i64 (dkLn (skStep c ((lns c).toNat) (c.th.toNat) S M).1)) (fun w hS => ((hS.blk 0 rfl h_66).cell rfl)) (hS.pick [2]) ?_
        refine K.m 11 rfl (fun w hS => K.QR.nice (v := .bool (((dkLn (skStep c ((lns c).toNat) (c.th.toNat) S M).1) : Int) == (0 : Int))) (by kernel_rfl) (congrArg Value.bool (beq_iff_eq.2 (dk_t hb_73)))) (hS.pick [2]) ?_
        refine K.DW.l 6 rfl (by kernel_rfl) (by kernel_rfl) (K.OW.gcall hS [4] [0, 1, 2, 3, 5, 6, 7, 8] [.pointer (some ⟨p_22, 0, none⟩)] (skDoneE_ok _ _ _ ((skStep c ((lns c).toNat) (c.th.toNat) S M).1) _ h_57) ?_)
        clear hS; rintro _ _ w ⟨rfl, rfl⟩ hS
        replace hS : K.Sat w0 [g_55, l_56, l_65, g_63, q_64, gl_12, g_5, g_2, fr] w := hS
        refine ⟨.inl (hS.pick [3]), ?_⟩
        cases hb_75 : ((skStep c ((lns c).toNat) (c.th.toNat) S M).1).done
        ·cases (hb_75.symm.trans (show ((skStep c ((lns c).toNat) (c.th.toNat) S M).1).done = true from hb_73))
        ·
         refine K.b 12 rfl (.bool false) (hS.pick [3]) ?_
         refine K.b 13 rfl (.bool false) (hS.pick [3]) ?_
         refine K.DW.done (by kernel_rfl) ?_
         refine K.t (K.f (K.k ?_))
         refine K.blk_normal ?_
         refine K.t (K.g (K.q [.int .i64 ((j : Nat) : Int)] ?_))
         refine K.a (K.QR.n64 ((((j : Nat) : Int) : Int) + (1 : Int)) ((j + 1 : Nat) : Int) (by kernel_rfl) (by omega)) ?_
         refine K.q [.int .i64 ((j + 1 : Nat) : Int)] (K.z (K.t ?_))
         refine ⟨_, ?_, j + 1, ((skStep c ((lns c).toNat) (c.th.toNat) S M).1), ra_61, sa_62, ((skStep c ((lns c).toNat) (c.th.toNat) S M).2), g_55, g_63, q_64, l_56, l_65, rfl, ⟨by rfl, by rfl, by rfl, by rfl, by rfl, by rfl, by rfl, by rfl, by rfl, trivial⟩, (by omega), (by assumption), (by assumption), h_57, h_66, k_67, x_58, x_68, hS.pick [3, 4, 0, 5, 1, 2, 6, 7, 8]⟩
         omega
    ·
     refine K.x ((((j : Nat) : Int) : Int) < (((ls.length : Nat) : Int) : Int)) h_43 ?_
     refine K.z (K.t (K.f ?_))
     refine K.KW.exit ?_
     refine K.thn_exit ?_
     refine K.thn_exit ?_
     refine K.blk_hit ?_
     refine K.t (K.s (K.s ?_))
     cases hb_76 : S.done
     ·
      refine K.g (K.q [.pointer (some ⟨p_25, 0, none⟩), .pointer (some ⟨p_25, 0, none⟩), .pointer (some ⟨p_25, 7, none⟩)] ?_)
      refine K.d (.int .i64 (dkLn S)) ((hS.blk 0 rfl x_39).cell rfl) ?_
      refine K.yn ((dkLn S) : Int) (0 : Int) (dk_nz hb_76 (SkG.good (by assumption))) ?_
      refine K.z (K.t (K.h (K.s (K.g ?_))))
      refine K.l (K.OW.gcall hS [] [0, 1, 2, 3, 4, 5, 6, 7, 8] [] (awake14_ok _) ?_)
      clear hS; rintro _ _ w ⟨rfl, rfl⟩ hS
      replace hS : K.Sat w0 [h1, k1, g1, gl_12, l1, m1, g_5, g_2, fr] w := hS
      refine K.q [.bool true, .pointer (some ⟨p_22, 0, none⟩)] ?_
      refine K.l (K.OW.gcall hS [2] [0, 1, 3, 4, 5, 6, 7, 8] [.pointer (some ⟨p_22, 0, none⟩)] (skFoundE_ok _ _ _ S _ x_38) ?_)
      clear hS; rintro _ _ w ⟨rfl, rfl⟩ hS
      replace hS : K.Sat w0 [g1, h1, k1, gl_12, l1, m1, g_5, g_2, fr] w := hS
      cases hb_77 : (S.done && S.found)
      ·
       refine K.q [.bool true, .bool true, .bool true, .pointer (some ⟨p_22, 0, none⟩)] ?_
       refine K.l (K.OW.gcall hS [0] [1, 2, 3, 4, 5, 6, 7, 8] [.pointer (some ⟨p_22, 0, none⟩)] (skPrevE_ok _ _ _ S _ x_38) ?_)
       clear hS; rintro _ _ w ⟨rfl, rfl⟩ hS
       replace hS : K.Sat w0 [g1, h1, k1, gl_12, l1, m1, g_5, g_2, fr] w := hS
       refine K.ye ((if S.done = true then S.prev else -1) : Int) ((-1) : Int) (if_neg (by rw [hb_76]; decide)) ?_
       refine K.q [.bool true, .bool true, .pointer (some ⟨p_22, 0, none⟩)] ?_
       refine K.l (K.OW.gcall hS [0] [1, 2, 3, 4, 5, 6, 7, 8] [.pointer (some ⟨p_22, 0, none⟩)] (skWordE_ok _ _ _ S _ x_38) ?_)
       clear hS; rintro _ _ w ⟨rfl, rfl⟩ hS
       replace hS : K.Sat w0 [g1, h1, k1, gl_12, l1, m1, g_5, g_2, fr] w := hS
       refine K.ye ((if S.done = true then S.word else 0) : Int) (0 : Int) (if_neg (by rw [hb_76]; decide)) ?_
       refine K.q [.bool true, .bool true, .pointer (some ⟨p_22, 0, none⟩)] ?_
       refine K.l (K.OW.gcall hS [0] [1, 2, 3, 4, 5, 6, 7, 8] [.pointer (some ⟨p_22, 0, none⟩)] (skCurrE_ok _ _ _ S _ x_38) ?_)
       clear hS; rintro _ _ w ⟨rfl, rfl⟩ hS
       replace hS : K.Sat w0 [g1, h1, k1, gl_12, l1, m1, g_5, g_2, fr] w := hS
       refine K.ye ((if S.done = true then S.curr else -1) : Int) ((-1) : Int) (if_neg (by rw [hb_76]; decide)) ?_
       refine K.q [.bool true, .bool true, .pointer (some ⟨p_22, 0, none⟩)] ?_
       refine K.l (K.OW.gcall hS [0] [1, 2, 3, 4, 5, 6, 7, 8] [.pointer (some ⟨p_22, 0, none⟩)] (skLinkE_ok _ _ _ S _ x_38) ?_)
       clear hS; rintro _ _ w ⟨rfl, rfl⟩ hS
       replace hS : K.Sat w0 [g1, h1, k1, gl_12, l1, m1, g_5, g_2, fr] w := hS
       refine K.ye ((if S.done = true then S.link else 0) : Int) (0 : Int) (if_neg (by rw [hb_76]; decide)) ?_
       refine K.q [.bool true, .bool true, .pointer (some ⟨p_22, 0, none⟩)] ?_
       refine K.l (K.OW.gcall hS [0] [1, 2, 3, 4, 5, 6, 7, 8] [.pointer (some ⟨p_22, 0, none⟩)] (skWhenE_ok _ _ _ S _ x_38) ?_)
       clear hS; rintro _ _ w ⟨rfl, rfl⟩ hS
       replace hS : K.Sat w0 [g1, h1, k1, gl_12, l1, m1, g_5, g_2, fr] w := hS
       refine K.ye ((if S.done = true then S.when_ else -1) : Int) ((-1) : Int) (if_neg (by rw [hb_76]; decide)) ?_
       refine K.q [.bool true, .bool true] (K.z (K.t (K.r (K.u ?_))))
       refine ⟨.inr rfl, rfl, (.bool true), K.res1 rfl rfl, [], ?_, hS.pick [8]⟩
       exact rfl
      ·cases (hb_77.symm.trans (show (S.done && S.found) = false from by rw [hb_76]; rfl))
     ·
      refine K.g (K.q [.pointer (some ⟨p_25, 0, none⟩), .pointer (some ⟨p_25, 0, none⟩), .pointer (some ⟨p_25, 7, none⟩)] ?_)
      refine K.d (.int .i64 (dkLn S)) ((hS.blk 0 rfl x_39).cell rfl) ?_
      refine K.xn ((dkLn S) : Int) (0 : Int) (dk_t hb_76) ?_
      refine K.z (K.t (K.f (K.k (K.t (K.s ?_)))))
      cases hb_78 : S.found
      ·
       refine K.KW.gdrawn [0] hS (by kernel_rfl) ?_
       clear hS; intro w hS
       refine K.DW.l 0 rfl (by kernel_rfl) rfl (K.OW.gcall hS [] [0, 1, 2, 3, 4, 5, 6, 7, 8] [] (awake14_ok _) ?_)
       clear hS; rintro _ _ w ⟨rfl, rfl⟩ hS
       replace hS : K.Sat w0 [h1, k1, g1, gl_12, l1, m1, g_5, g_2, fr] w := hS
       refine ⟨.inl (hS.pick [0]), ?_⟩
       refine K.b 1 rfl (.bool true) (hS.pick [0]) ?_
       refine K.p 2 rfl (.pointer (some ⟨p_22, 0, none⟩)) (hS.pick [0]) ?_
       refine K.p 4 rfl (.pointer (some ⟨p_25, 0, none⟩)) (hS.pick [0]) ?_
       refine K.p 5 rfl (.pointer (some ⟨p_25, 0, none⟩)) (hS.pick [0]) ?_
       refine K.p 6 rfl (.pointer (some ⟨p_25, 10, none⟩)) (hS.pick [0]) ?_
       refine K.m 7 rfl (fun w hS => K.QR.turn (v := .bool S.found) (K.QR.ld1 (v := .bool S.found) rfl rfl (by kernel_rfl) ((hS.blk 0 rfl x_39).cell rfl)) (congrArg Value.bool hb_78)) (hS.pick [0]) ?_
       refine K.DW.l 3 rfl (by kernel_rfl) (by kernel_rfl) (K.OW.gcall hS [2] [0, 1, 3, 4, 5, 6, 7, 8] [.pointer (some ⟨p_22, 0, none⟩)] (skFoundE_ok _ _ _ S _ x_38) ?_)
       clear hS; rintro _ _ w ⟨rfl, rfl⟩ hS
       replace hS : K.Sat w0 [g1, h1, k1, gl_12, l1, m1, g_5, g_2, fr] w := hS
       refine ⟨.inl (hS.pick [1]), ?_⟩
       cases hb_79 : (S.done && S.found)
       ·
        refine K.b 8 rfl (.bool true) (hS.pick [1]) ?_
        refine K.b 9 rfl (.bool true) (hS.pick [1]) ?_
        refine K.b 10 rfl (.bool true) (hS.pick [1]) ?_
        refine K.p 11 rfl (.pointer (some ⟨p_22, 0, none⟩)) (hS.pick [1]) ?_
        refine K.p 13 rfl (.pointer (some ⟨p_25, 0, none⟩)) (hS.pick [1]) ?_
        refine K.p 14 rfl (.pointer (some ⟨p_25, 0, none⟩)) (hS.pick [1]) ?_
        refine K.p 15 rfl (.pointer (some ⟨p_25, 11, none⟩)) (hS.pick [1]) ?_
        refine K.o_ 16 rfl (.int .i64 S.prev) (fun w hS => ((hS.blk 0 rfl x_39).cell rfl)) (hS.pick [1]) ?_
        refine K.DW.l 12 rfl (by kernel_rfl) (by kernel_rfl) (K.OW.gcall hS [0] [1, 2, 3, 4, 5, 6, 7, 8] [.pointer (some ⟨p_22, 0, none⟩)] (skPrevE_ok _ _ _ S _ x_38) ?_)
        clear hS; rintro _ _ w ⟨rfl, rfl⟩ hS
        replace hS : K.Sat w0 [g1, h1, k1, gl_12, l1, m1, g_5, g_2, fr] w := hS
        refine ⟨.inl (hS.pick [1]), ?_⟩
        refine K.c 17 rfl (K.QR.nice (v := .bool (((if S.done = true then S.prev else -1) : Int) == (S.prev : Int))) (by kernel_rfl) (congrArg Value.bool (beq_iff_eq.2 (if_pos hb_76)))) (hS.pick [1]) ?_
        refine K.b 18 rfl (.bool true) (hS.pick [1]) ?_
        refine K.b 19 rfl (.bool true) (hS.pick [1]) ?_
        refine K.p 20 rfl (.pointer (some ⟨p_22, 0, none⟩)) (hS.pick [1]) ?_
        refine K.p 22 rfl (.pointer (some ⟨p_25, 0, none⟩)) (hS.pick [1]) ?_
        refine K.p 23 rfl (.pointer (some ⟨p_25, 0, none⟩)) (hS.pick [1]) ?_
        refine K.p 24 rfl (.pointer (some ⟨p_25, 12, none⟩)) (hS.pick [1]) ?_
        refine K.o_ 25 rfl (.int .u64 S.word) (fun w hS => ((hS.blk 0 rfl x_39).cell rfl)) (hS.pick [1]) ?_
        refine K.DW.l 21 rfl (by kernel_rfl) (by kernel_rfl) (K.OW.gcall hS [0] [1, 2, 3, 4, 5, 6, 7, 8] [.pointer (some ⟨p_22, 0, none⟩)] (skWordE_ok _ _ _ S _ x_38) ?_)
        clear hS; rintro _ _ w ⟨rfl, rfl⟩ hS
        replace hS : K.Sat w0 [g1, h1, k1, gl_12, l1, m1, g_5, g_2, fr] w := hS
        refine ⟨.inl (hS.pick [1]), ?_⟩
        refine K.c 26 rfl (K.QR.nice (v := .bool (((if S.done = true then S.word else 0) : Int) == (S.word : Int))) (by kernel_rfl) (congrArg Value.bool (beq_iff_eq.2 (if_pos hb_76)))) (hS.pick [1]) ?_
        refine K.b 27 rfl (.bool true) (hS.pick [1]) ?_
        refine K.b 28 rfl (.bool true) (hS.pick [1]) ?_
        refine K.p 29 rfl (.pointer (some ⟨p_22, 0, none⟩)) (hS.pick [1]) ?_
        refine K.p 31 rfl (.pointer (some ⟨p_25, 0, none⟩)) (hS.pick [1]) ?_
        refine K.p 32 rfl (.pointer (some ⟨p_25, 0, none⟩)) (hS.pick [1]) ?_
        refine K.p 33 rfl (.pointer (some ⟨p_25, 14, none⟩)) (hS.pick [1]) ?_
        refine K.o_ 34 rfl (.int .i64 S.curr) (fun w hS => ((hS.blk 0 rfl x_39).cell rfl)) (hS.pick [1]) ?_
        refine K.DW.l 30 rfl (by kernel_rfl) (by kernel_rfl) (K.OW.gcall hS [0] [1, 2, 3, 4, 5, 6, 7, 8] [.pointer (some ⟨p_22, 0, none⟩)] (skCurrE_ok _ _ _ S _ x_38) ?_)
        clear hS; rintro _ _ w ⟨rfl, rfl⟩ hS
        replace hS : K.Sat w0 [g1, h1, k1, gl_12, l1, m1, g_5, g_2, fr] w := hS
        refine ⟨.inl (hS.pick [1]), ?_⟩
        refine K.c 35 rfl (K.QR.nice (v := .bool (((if S.done = true then S.curr else -1) : Int) == (S.curr : Int))) (by kernel_rfl) (congrArg Value.bool (beq_iff_eq.2 (if_pos hb_76)))) (hS.pick [1]) ?_
        refine K.b 36 rfl (.bool true) (hS.pick [1]) ?_
        refine K.b 37 rfl (.bool true) (hS.pick [1]) ?_
        refine K.p 38 rfl (.pointer (some ⟨p_22, 0, none⟩)) (hS.pick [1]) ?_
        refine K.p 40 rfl (.pointer (some ⟨p_25, 0, none⟩)) (hS.pick [1]) ?_
        refine K.p 41 rfl (.pointer (some ⟨p_25, 0, none⟩)) (hS.pick [1]) ?_
        refine K.p 42 rfl (.pointer (some ⟨p_25, 15, none⟩)) (hS.pick [1]) ?_
        refine K.o_ 43 rfl (.int .u64 S.link) (fun w hS => ((hS.blk 0 rfl x_39).cell rfl)) (hS.pick [1]) ?_
        refine K.DW.l 39 rfl (by kernel_rfl) (by kernel_rfl) (K.OW.gcall hS [0] [1, 2, 3, 4, 5, 6, 7, 8] [.pointer (some ⟨p_22, 0, none⟩)] (skLinkE_ok _ _ _ S _ x_38) ?_)
        clear hS; rintro _ _ w ⟨rfl, rfl⟩ hS
        replace hS : K.Sat w0 [g1, h1, k1, gl_12, l1, m1, g_5, g_2, fr] w := hS
        refine ⟨.inl (hS.pick [1]), ?_⟩
        refine K.c 44 rfl (K.QR.nice (v := .bool (((if S.done = true then S.link else 0) : Int) == (S.link : Int))) (by kernel_rfl) (congrArg Value.bool (beq_iff_eq.2 (if_pos hb_76)))) (hS.pick [1]) ?_
        refine K.b 45 rfl (.bool true) (hS.pick [1]) ?_
        refine K.b 46 rfl (.bool true) (hS.pick [1]) ?_
        refine K.p 47 rfl (.pointer (some ⟨p_22, 0, none⟩)) (hS.pick [1]) ?_
        refine K.p 49 rfl (.pointer (some ⟨p_25, 0, none⟩)) (hS.pick [1]) ?_
        refine K.p 50 rfl (.pointer (some ⟨p_25, 0, none⟩)) (hS.pick [1]) ?_
        refine K.p 51 rfl (.pointer (some ⟨p_25, 16, none⟩)) (hS.pick [1]) ?_
        refine K.o_ 52 rfl (.int .i64 S.when_) (fun w hS => ((hS.blk 0 rfl x_39).cell rfl)) (hS.pick [1]) ?_
        refine K.DW.l 48 rfl (by kernel_rfl) (by kernel_rfl) (K.OW.gcall hS [0] [1, 2, 3, 4, 5, 6, 7, 8] [.pointer (some ⟨p_22, 0, none⟩)] (skWhenE_ok _ _ _ S _ x_38) ?_)
        clear hS; rintro _ _ w ⟨rfl, rfl⟩ hS
        replace hS : K.Sat w0 [g1, h1, k1, gl_12, l1, m1, g_5, g_2, fr] w := hS
        refine ⟨.inl (hS.pick [1]), ?_⟩
        refine K.c 53 rfl (K.QR.nice (v := .bool (((if S.done = true then S.when_ else -1) : Int) == (S.when_ : Int))) (by kernel_rfl) (congrArg Value.bool (beq_iff_eq.2 (if_pos hb_76)))) (hS.pick [1]) ?_
        refine K.b 54 rfl (.bool true) (hS.pick [1]) ?_
        refine K.b 55 rfl (.bool true) (hS.pick [1]) ?_
        refine K.DW.done (by kernel_rfl) ?_
        refine K.t (K.r ?_)
        refine ⟨.inr rfl, rfl, (.bool true), K.res1 rfl rfl, [], ?_, hS.pick [8]⟩
        exact rfl
       ·cases (hb_79.symm.trans (show (S.done && S.found) = false from by rw [hb_76, hb_78]; rfl))
      ·
       refine K.KW.gdrawn [0] hS (by kernel_rfl) ?_
       clear hS; intro w hS
       refine K.DW.l 0 rfl (by kernel_rfl) rfl (K.OW.gcall hS [] [0, 1, 2, 3, 4, 5, 6, 7, 8] [] (awake14_ok _) ?_)
       clear hS; rintro _ _ w ⟨rfl, rfl⟩ hS
       replace hS : K.Sat w0 [h1, k1, g1, gl_12, l1, m1, g_5, g_2, fr] w := hS
       refine ⟨.inl (hS.pick [0]), ?_⟩
       refine K.b 1 rfl (.bool true) (hS.pick [0]) ?_
       refine K.p 2 rfl (.pointer (some ⟨p_22, 0, none⟩)) (hS.pick [0]) ?_
       refine K.p 4 rfl (.pointer (some ⟨p_25, 0, none⟩)) (hS.pick [0]) ?_
       refine K.p 5 rfl (.pointer (some ⟨p_25, 0, none⟩)) (hS.pick [0]) ?_
       refine K.p 6 rfl (.pointer (some ⟨p_25, 10, none⟩)) (hS.pick [0]) ?_
       refine K.m 7 rfl (fun w hS => K.QR.turn (v := .bool S.found) (K.QR.ld1 (v := .bool S.found) rfl rfl (by kernel_rfl) ((hS.blk 0 rfl x_39).cell rfl)) (congrArg Value.bool hb_78)) (hS.pick [0]) ?_
       refine K.DW.l 3 rfl (by kernel_rfl) (by kernel_rfl) (K.OW.gcall hS [2] [0, 1, 3, 4, 5, 6, 7, 8] [.pointer (some ⟨p_22, 0, none⟩)] (skFoundE_ok _ _ _ S _ x_38) ?_)
       clear hS; rintro _ _ w ⟨rfl, rfl⟩ hS
       replace hS : K.Sat w0 [g1, h1, k1, gl_12, l1, m1, g_5, g_2, fr] w := hS
       refine ⟨.inl (hS.pick [1]), ?_⟩
       cases hb_80 : (S.done && S.found)
       ·cases (hb_80.symm.trans (show (S.done && S.found) = true from by rw [hb_76, hb_78]; rfl))
       ·
        refine K.b 8 rfl (.bool true) (hS.pick [1]) ?_
        refine K.b 9 rfl (.bool true) (hS.pick [1]) ?_
        refine K.b 10 rfl (.bool true) (hS.pick [1]) ?_
        refine K.p 11 rfl (.pointer (some ⟨p_22, 0, none⟩)) (hS.pick [1]) ?_
        refine K.p 13 rfl (.pointer (some ⟨p_25, 0, none⟩)) (hS.pick [1]) ?_
        refine K.p 14 rfl (.pointer (some ⟨p_25, 0, none⟩)) (hS.pick [1]) ?_
        refine K.p 15 rfl (.pointer (some ⟨p_25, 11, none⟩)) (hS.pick [1]) ?_
        refine K.o_ 16 rfl (.int .i64 S.prev) (fun w hS => ((hS.blk 0 rfl x_39).cell rfl)) (hS.pick [1]) ?_
        refine K.DW.l 12 rfl (by kernel_rfl) (by kernel_rfl) (K.OW.gcall hS [0] [1, 2, 3, 4, 5, 6, 7, 8] [.pointer (some ⟨p_22, 0, none⟩)] (skPrevE_ok _ _ _ S _ x_38) ?_)
        clear hS; rintro _ _ w ⟨rfl, rfl⟩ hS
        replace hS : K.Sat w0 [g1, h1, k1, gl_12, l1, m1, g_5, g_2, fr] w := hS
        refine ⟨.inl (hS.pick [1]), ?_⟩
        refine K.c 17 rfl (K.QR.nice (v := .bool (((if S.done = true then S.prev else -1) : Int) == (S.prev : Int))) (by kernel_rfl) (congrArg Value.bool (beq_iff_eq.2 (if_pos hb_76)))) (hS.pick [1]) ?_
        refine K.b 18 rfl (.bool true) (hS.pick [1]) ?_
        refine K.b 19 rfl (.bool true) (hS.pick [1]) ?_
        refine K.p 20 rfl (.pointer (some ⟨p_22, 0, none⟩)) (hS.pick [1]) ?_
        refine K.p 22 rfl (.pointer (some ⟨p_25, 0, none⟩)) (hS.pick [1]) ?_
        refine K.p 23 rfl (.pointer (some ⟨p_25, 0, none⟩)) (hS.pick [1]) ?_
        refine K.p 24 rfl (.pointer (some ⟨p_25, 12, none⟩)) (hS.pick [1]) ?_
        refine K.o_ 25 rfl (.int .u64 S.word) (fun w hS => ((hS.blk 0 rfl x_39).cell rfl)) (hS.pick [1]) ?_
        refine K.DW.l 21 rfl (by kernel_rfl) (by kernel_rfl) (K.OW.gcall hS [0] [1, 2, 3, 4, 5, 6, 7, 8] [.pointer (some ⟨p_22, 0, none⟩)] (skWordE_ok _ _ _ S _ x_38) ?_)
        clear hS; rintro _ _ w ⟨rfl, rfl⟩ hS
        replace hS : K.Sat w0 [g1, h1, k1, gl_12, l1, m1, g_5, g_2, fr] w := hS
        refine ⟨.inl (hS.pick [1]), ?_⟩
        refine K.c 26 rfl (K.QR.nice (v := .bool (((if S.done = true then S.word else 0) : Int) == (S.word : Int))) (by kernel_rfl) (congrArg Value.bool (beq_iff_eq.2 (if_pos hb_76)))) (hS.pick [1]) ?_
        refine K.b 27 rfl (.bool true) (hS.pick [1]) ?_
        refine K.b 28 rfl (.bool true) (hS.pick [1]) ?_
        refine K.p 29 rfl (.pointer (some ⟨p_22, 0, none⟩)) (hS.pick [1]) ?_
        refine K.p 31 rfl (.pointer (some ⟨p_25, 0, none⟩)) (hS.pick [1]) ?_
        refine K.p 32 rfl (.pointer (some ⟨p_25, 0, none⟩)) (hS.pick [1]) ?_
        refine K.p 33 rfl (.pointer (some ⟨p_25, 14, none⟩)) (hS.pick [1]) ?_
        refine K.o_ 34 rfl (.int .i64 S.curr) (fun w hS => ((hS.blk 0 rfl x_39).cell rfl)) (hS.pick [1]) ?_
        refine K.DW.l 30 rfl (by kernel_rfl) (by kernel_rfl) (K.OW.gcall hS [0] [1, 2, 3, 4, 5, 6, 7, 8] [.pointer (some ⟨p_22, 0, none⟩)] (skCurrE_ok _ _ _ S _ x_38) ?_)
        clear hS; rintro _ _ w ⟨rfl, rfl⟩ hS
        replace hS : K.Sat w0 [g1, h1, k1, gl_12, l1, m1, g_5, g_2, fr] w := hS
        refine ⟨.inl (hS.pick [1]), ?_⟩
        refine K.c 35 rfl (K.QR.nice (v := .bool (((if S.done = true then S.curr else -1) : Int) == (S.curr : Int))) (by kernel_rfl) (congrArg Value.bool (beq_iff_eq.2 (if_pos hb_76)))) (hS.pick [1]) ?_
        refine K.b 36 rfl (.bool true) (hS.pick [1]) ?_
        refine K.b 37 rfl (.bool true) (hS.pick [1]) ?_
        refine K.p 38 rfl (.pointer (some ⟨p_22, 0, none⟩)) (hS.pick [1]) ?_
        refine K.p 40 rfl (.pointer (some ⟨p_25, 0, none⟩)) (hS.pick [1]) ?_
        refine K.p 41 rfl (.pointer (some ⟨p_25, 0, none⟩)) (hS.pick [1]) ?_
        refine K.p 42 rfl (.pointer (some ⟨p_25, 15, none⟩)) (hS.pick [1]) ?_
        refine K.o_ 43 rfl (.int .u64 S.link) (fun w hS => ((hS.blk 0 rfl x_39).cell rfl)) (hS.pick [1]) ?_
        refine K.DW.l 39 rfl (by kernel_rfl) (by kernel_rfl) (K.OW.gcall hS [0] [1, 2, 3, 4, 5, 6, 7, 8] [.pointer (some ⟨p_22, 0, none⟩)] (skLinkE_ok _ _ _ S _ x_38) ?_)
        clear hS; rintro _ _ w ⟨rfl, rfl⟩ hS
        replace hS : K.Sat w0 [g1, h1, k1, gl_12, l1, m1, g_5, g_2, fr] w := hS
        refine ⟨.inl (hS.pick [1]), ?_⟩
        refine K.c 44 rfl (K.QR.nice (v := .bool (((if S.done = true then S.link else 0) : Int) == (S.link : Int))) (by kernel_rfl) (congrArg Value.bool (beq_iff_eq.2 (if_pos hb_76)))) (hS.pick [1]) ?_
        refine K.b 45 rfl (.bool true) (hS.pick [1]) ?_
        refine K.b 46 rfl (.bool true) (hS.pick [1]) ?_
        refine K.p 47 rfl (.pointer (some ⟨p_22, 0, none⟩)) (hS.pick [1]) ?_
        refine K.p 49 rfl (.pointer (some ⟨p_25, 0, none⟩)) (hS.pick [1]) ?_
        refine K.p 50 rfl (.pointer (some ⟨p_25, 0, none⟩)) (hS.pick [1]) ?_
        refine K.p 51 rfl (.pointer (some ⟨p_25, 16, none⟩)) (hS.pick [1]) ?_
        refine K.o_ 52 rfl (.int .i64 S.when_) (fun w hS => ((hS.blk 0 rfl x_39).cell rfl)) (hS.pick [1]) ?_
        refine K.DW.l 48 rfl (by kernel_rfl) (by kernel_rfl) (K.OW.gcall hS [0] [1, 2, 3, 4, 5, 6, 7, 8] [.pointer (some ⟨p_22, 0, none⟩)] (skWhenE_ok _ _ _ S _ x_38) ?_)
        clear hS; rintro _ _ w ⟨rfl, rfl⟩ hS
        replace hS : K.Sat w0 [g1, h1, k1, gl_12, l1, m1, g_5, g_2, fr] w := hS
        refine ⟨.inl (hS.pick [1]), ?_⟩
        refine K.c 53 rfl (K.QR.nice (v := .bool (((if S.done = true then S.when_ else -1) : Int) == (S.when_ : Int))) (by kernel_rfl) (congrArg Value.bool (beq_iff_eq.2 (if_pos hb_76)))) (hS.pick [1]) ?_
        refine K.b 54 rfl (.bool true) (hS.pick [1]) ?_
        refine K.b 55 rfl (.bool true) (hS.pick [1]) ?_
        refine K.DW.done (by kernel_rfl) ?_
        refine K.t (K.r ?_)
        refine ⟨.inr rfl, rfl, (.bool true), K.res1 rfl rfl, [], ?_, hS.pick [8]⟩
        exact rfl
 ·
  replace hS : K.Sat w0 [g_5, g_2, fr] w := hS.of (by simp [K.pick, K.nth])
  refine K.q [.tuple #[.pointer none, .pointer none, .pointer none, .bool false], .pointer none, .pointer none, .pointer none, .bool false, .pointer none, .pointer none, .pointer none, .bool false] (K.z (K.t (K.s (K.s (K.g (K.q [.bool false, .bool true, .bool true] (K.n_ (K.n_ (K.n_ (K.q [.bool true] (K.z (K.t (K.h (K.s ?_))))))))))))))
  refine K.g ?_
  refine K.l (K.OW.gcall hS [] [0, 1, 2] [] (awake14_ok _) ?_)
  clear hS; rintro _ _ w ⟨rfl, rfl⟩ hS
  replace hS : K.Sat w0 [g_5, g_2, fr] w := hS
  refine K.q [.bool true] (K.z (K.t (K.r (K.u ?_))))
  refine ⟨.inr rfl, rfl, (.bool true), K.res1 rfl rfl, [], ?_, hS.pick [2]⟩
  exact rfl
end Go.Proofs.YtbfafebfkdbglaaGreat
