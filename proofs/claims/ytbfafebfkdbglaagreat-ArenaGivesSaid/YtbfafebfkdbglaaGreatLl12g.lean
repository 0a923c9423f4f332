import Derived.Test.YtbfafebfkdbglaaGreatFg12
import Derived.Test.YtbfafebfkdbglaaGreatKi
import Derived.Test.YtbfafebfkdbglaaGreatKn
/- The statement ArenaGives. -/
namespace Go.Proofs.YtbfafebfkdbglaaGreat
open Go.RowKit
set_option linter.unusedVariables false
attribute [local irreducible] K.KW K.RW K.DW K.OW K.QR K.KC
theorem newgvP_ok (w0 : World) (b : Nat) (tt sl : Int) : K.GC Tryz.prog w0 48 #[.pointer (some ⟨b, 0, none⟩), .int .i64 tt, .int .i64 sl] [] (fun v post => ∃ p g, v = .pointer (some ⟨p, 0, none⟩) ∧ post = [g] ∧ GvEl p b ⟨tt, 1, sl, ⟨tt, 0, 0, sl⟩⟩ g) := by
 refine (newgvE_ok w0 b tt sl).mono ?_
 rintro v post ⟨p, g, h1, h2, h3⟩
 exact ⟨p, g, h1, h2, gvEl_start h3⟩
structure GvI (S : GvS) (sl : Int) : Prop where
 good : S.good
 pc : pcOk S.push.pc
 q : S.part = 1 → S.push = ⟨S.t, 0, 0, S.slot⟩
 sl : S.slot = sl
theorem GvI.start {tt sl : Int} (h1 : isInt tt) (h2 : isInt sl) : GvI ⟨tt, 1, sl, ⟨tt, 0, 0, sl⟩⟩ sl := ⟨⟨h1, .inr (.inl rfl), h2, ⟨h1, isW00, h2⟩⟩, .inl rfl, fun _ => rfl, rfl⟩
theorem GvI.step {c : Cfg} {n : Nat} {S : GvS} {M : MemM} {sl : Int} (h : GvI S sl) (hM : M.good) : GvI (gvStep c n S M).1 sl ∧ (gvStep c n S M).2.good := by
 obtain ⟨hg, hm⟩ := gvStep_good (c := c) (n := n) h.good hM
 refine ⟨⟨hg, ?_, ?_, ?_⟩, hm⟩
 ·unfold gvStep
  split
  ·exact h.pc
  split
  ·exact .inl rfl
  ·exact pushStep_pc h.pc
 ·unfold gvStep
  split
  ·exact h.q
  split
  ·exact fun _ => rfl
  ·intro h1
   have h1 : (if (pushStep c n S.push M).1.pc = 3 then (0 : Int) else 2) = 1 := h1
   split at h1 <;> omega
 ·unfold gvStep
  split
  ·exact h.sl
  split
  ·exact h.sl
  ·exact h.sl
theorem gvHoldsV_ok (w0 : World) (p b : Nat) (S : GvS) (g : K.Cs) (h : GvEl p b S g) (s : Int) (e : (if S.done = true then -1 else S.slot) = s) : K.GC Tryz.prog w0 54 #[.pointer (some ⟨p, 0, none⟩)] [g] (fun v post => v = .int .i64 s ∧ post = [g]) := by
 have := gvHoldsE_ok w0 p b S g h
 rwa [e] at this
set_option maxHeartbeats 1000000 in
set_option maxRecDepth 100000 in
theorem l12gives_ok (w0 : World) (c : Cfg) (pa : Option Addr) (cp : Nat) (ps : List PutM) (hg : ∀ j, j < ps.length → isInt (ps.getD j pu0).at_ ∧ isW (ps.getD j pu0).w) (hxp : K.RowE w0 pa ps.length 2 (fun i => cPut (ps.getD i pu0))) (tt sl : Int) (htt : isInt tt) (hsl : isInt sl) (b : Option Addr) (cap2 : Nat) (ls : List PokeM) (hk : ∀ j, j < ls.length → (ls.getD j pk0).act.good ∧ isW (ls.getD j pk0).act.w) (hl : ls.length ≤ 9223372036854775807) (hy : K.RowE w0 b ls.length 6 (fun i => cPoke (ls.getD i pk0))) :
  K.GC Tryz.prog w0 8 #[.agg #[.int .i64 c.th, .int .i64 c.sl, .int .i64 c.lo, .int .i64 c.bu, .slice pa ps.length cp], .agg #[.int .i64 tt, .int .i64 sl], .slice b ls.length cap2] [] (fun v post => v = .bool true) := by
 refine K.GC.mk (n := 110) Tryz.func8 rfl rfl [.agg #[.int .i64 c.th, .int .i64 c.sl, .int .i64 c.lo, .int .i64 c.bu, .slice pa ps.length cp], .agg #[.int .i64 tt, .int .i64 sl], .slice b ls.length cap2] rfl rfl ?_
 intro fr w hS
 replace hS : K.Sat w0 [fr] w := hS
 refine K.s (K.g ?_)
 refine K.l (K.OW.gnew 38 [.int .i64 c.th, .int .i64 c.sl, .int .i64 c.lo, .int .i64 c.bu, .slice pa ps.length cp] hS ?_)
 clear hS; intro w r_1 g_2 hg_3 hS
 refine K.l (K.OW.gnew 107 [.int .i64 tt, .int .i64 sl] hS ?_)
 clear hS; intro w r_4 g_5 hg_6 hS
 refine K.q [.bool false] (K.z (K.t (K.s (K.g ?_))))
 refine K.a (K.QR.ldN [.int .i64 c.th, .int .i64 c.sl, .int .i64 c.lo, .int .i64 c.bu, .slice pa ps.length cp] rfl rfl (by kernel_rfl) (by kernel_rfl) (K.cells (K.cl ((hS.blk 1 rfl hg_3).cell rfl) (K.cl ((hS.blk 1 rfl hg_3).cell rfl) (K.cl ((hS.blk 1 rfl hg_3).cell rfl) (K.cl ((hS.blk 1 rfl hg_3).cell rfl) (K.cl ((hS.blk 1 rfl hg_3).cell rfl) K.cl0))))))) ?_
 refine K.l (K.OW.gcall hS [53] [0, 1, 2] [.agg #[.int .i64 c.th, .int .i64 c.sl, .int .i64 c.lo, .int .i64 c.bu, .slice pa ps.length cp]] (lay_ok _ c _ _ ps (fun j hj => (hg j hj).1) _ (fun w h => hxp.no h.chg)) ?_)
 clear hS; rintro _ _ w (⟨b_7, p_8, q_9, r_10, u_11, _, _, gl_12, l_13, m_14, rfl, rfl, hl_15, x_16, y_17, rfl, rfl, hf_18, hp_19⟩ | ⟨rfl, rfl, h_20⟩) hS
 ·
  replace hS : K.Sat w0 [gl_12, l_13, m_14, g_5, g_2, fr] w := hS.of (by simp [K.pick, K.nth])
  have hc : cfgOk c := hf_18.1
  obtain ⟨hfa, hfb⟩ : (((1 ≤ c.th ∧ c.th ≤ 64) ∧ (1 ≤ c.sl ∧ c.sl ≤ 65536) ∧ (1 ≤ c.lo ∧ c.lo ≤ 64) ∧ (1 ≤ c.bu ∧ c.bu ≤ 64)) ∧ (c.th ≤ 6 ∧ c.sl ≤ 30 ∧ c.lo ≤ 8 ∧ c.bu ≤ 8)) := (by have h := hf_18; unfold fewC cfgOk at h; exact h)
  have hM : (groundM ((lns c).toNat) (c.th.toNat) (2 + c.th + c.sl).toNat ps).good := ground_good (fun j hj => (hg j hj).2)
  have hP : (((groundM ((lns c).toNat) (c.th.toNat) (2 + c.th + c.sl).toNat ps).pass.length : Nat) : Int) = 2 + c.th + c.sl := by rw [ground_pass]; omega
  refine K.q [.tuple #[.pointer (some ⟨b_7, 0, none⟩), .pointer (some ⟨p_8, 0, none⟩), .pointer (some ⟨r_10, 0, none⟩), .bool true], .pointer (some ⟨b_7, 0, none⟩), .pointer (some ⟨p_8, 0, none⟩), .pointer (some ⟨r_10, 0, none⟩), .bool true, .pointer (some ⟨b_7, 0, none⟩), .pointer (some ⟨p_8, 0, none⟩), .pointer (some ⟨r_10, 0, none⟩), .bool true] (K.z (K.t (K.s (K.s (K.g (K.q [.bool true, .bool false, .bool false, .slice b ls.length cap2] ?_))))))
  refine K.a (K.QR.len (P := Tryz.prog) rfl rfl Tryz.underlying54) ?_
  by_cases h_21 : (((ls.length : Nat) : Int) : Int) > (60 : Int)
  ·
   refine K.y ((((ls.length : Nat) : Int) : Int) > (60 : Int)) h_21 ?_
   refine K.q [.bool true] (K.z (K.t (K.h (K.s (K.g ?_)))))
   refine K.l (K.OW.gcall hS [] [0, 1, 2, 3, 4, 5] [] (awake12_ok _) ?_)
   clear hS; rintro _ _ w ⟨rfl, rfl⟩ hS
   replace hS : K.Sat w0 [gl_12, l_13, m_14, g_5, g_2, fr] w := hS
   refine K.q [.bool true] (K.z (K.t (K.r (K.u ?_))))
   refine ⟨.inr rfl, rfl, (.bool true), K.res1 rfl rfl, [], ?_, hS.pick [5]⟩
   exact rfl
  ·
   refine K.x ((((ls.length : Nat) : Int) : Int) > (60 : Int)) h_21 ?_
   refine K.q [.bool false] (K.z (K.t (K.f (K.k (K.t (K.s ?_))))))
   refine K.KW.gdrawn [3, 4] hS (by kernel_rfl) ?_
   clear hS; intro w hS
   refine K.p 0 rfl (.pointer (some ⟨b_7, 0, none⟩)) (hS.pick [3, 4]) ?_
   refine K.m 1 rfl (fun w hS => K.QR.ixA 0 1 rfl rfl rfl Tryz.underlying107 (by kernel_rfl) (by omega) (by first | rfl | simp)) (hS.pick [3, 4]) ?_
   refine K.o_ 2 rfl (.int .i64 tt) (fun w hS => ((hS.blk 0 rfl hg_6).cell rfl)) (hS.pick [3, 4]) ?_
   refine K.m 3 rfl (fun w hS => K.QR.ixA 1 1 rfl rfl rfl Tryz.underlying107 (by kernel_rfl) (by omega) (by first | rfl | simp)) (hS.pick [3, 4]) ?_
   refine K.o_ 4 rfl (.int .i64 sl) (fun w hS => ((hS.blk 0 rfl hg_6).cell rfl)) (hS.pick [3, 4]) ?_
   refine K.p 6 rfl (.pointer (some ⟨r_1, 0, none⟩)) (hS.pick [3, 4]) ?_
   refine K.m 7 rfl (fun w hS => K.QR.ldN [.int .i64 c.th, .int .i64 c.sl, .int .i64 c.lo, .int .i64 c.bu] rfl rfl (by kernel_rfl) (by kernel_rfl) (K.cells (K.cl ((hS.blk 1 rfl hg_3).cell rfl) (K.cl ((hS.blk 1 rfl hg_3).cell rfl) (K.cl ((hS.blk 1 rfl hg_3).cell rfl) (K.cl ((hS.blk 1 rfl hg_3).cell rfl) K.cl0)))))) (hS.pick [3, 4]) ?_
   refine K.m 8 rfl (fun w hS => K.QR.ixA 0 1 rfl rfl rfl Tryz.underlying107 (by kernel_rfl) (by omega) (by first | rfl | simp)) (hS.pick [3, 4]) ?_
   refine K.o_ 9 rfl (.int .i64 tt) (fun w hS => ((hS.blk 0 rfl hg_6).cell rfl)) (hS.pick [3, 4]) ?_
   refine K.m 10 rfl (fun w hS => K.QR.ixA 1 1 rfl rfl rfl Tryz.underlying107 (by kernel_rfl) (by omega) (by first | rfl | simp)) (hS.pick [3, 4]) ?_
   refine K.o_ 11 rfl (.int .i64 sl) (fun w hS => ((hS.blk 0 rfl hg_6).cell rfl)) (hS.pick [3, 4]) ?_
   refine K.DW.l 5 rfl (by kernel_rfl) rfl (K.OW.gcall hS [] [0, 1, 2, 3, 4, 5] [.pointer (some ⟨b_7, 0, none⟩), .int .i64 tt, .int .i64 sl] (newgvP_ok _ b_7 tt sl) ?_)
   clear hS; rintro _ _ w ⟨p_22, g_23, rfl, rfl, h_24⟩ hS
   replace hS : K.Sat w0 [g_23, gl_12, l_13, m_14, g_5, g_2, fr] w := hS
   refine ⟨.inl (hS.pick [4, 5]), ?_⟩
   refine K.DW.l 12 rfl (by kernel_rfl) rfl (K.OW.gcall hS [] [0, 1, 2, 3, 4, 5, 6] [.agg #[.int .i64 c.th, .int .i64 c.sl, .int .i64 c.lo, .int .i64 c.bu], .int .i64 tt, .int .i64 sl] (rnewgv_ok _ c tt sl) ?_)
   clear hS; rintro _ _ w ⟨r_25, g_26, rfl, rfl, h_27⟩ hS
   replace hS : K.Sat w0 [g_26, g_23, gl_12, l_13, m_14, g_5, g_2, fr] w := hS
   refine ⟨.inl (hS.pick [5, 6]), ?_⟩
   refine K.b 13 rfl (.pointer (some ⟨p_22, 0, none⟩)) (hS.pick [5, 6]) ?_
   refine K.b 14 rfl (.pointer (some ⟨r_25, 0, none⟩)) (hS.pick [5, 6]) ?_
   refine K.DW.done (by kernel_rfl) ?_
   refine K.t (K.s (K.s (K.g (K.q [.int .i64 0] (K.z (K.t ?_))))))
   refine K.KW.block ?_
   refine K.KW.loop (fun m_ F_ w_ => ∃ (j : Nat) (S : GvS) (M : MemM) (g1 : K.Cs) (h1 : K.Cs) (l1 : K.Cs) (m1 : K.Cs), m_ = ls.length - j ∧ K.Sl F_ [(0, .agg #[.int .i64 c.th, .int .i64 c.sl, .int .i64 c.lo, .int .i64 c.bu, .slice pa ps.length cp]), (1, .agg #[.int .i64 tt, .int .i64 sl]), (2, .slice b ls.length cap2), (4, .pointer (some ⟨r_4, 0, none⟩)), (8, .pointer (some ⟨p_8, 0, none⟩)), (9, .pointer (some ⟨r_10, 0, none⟩)), (11, .pointer (some ⟨p_22, 0, none⟩)), (12, .pointer (some ⟨r_25, 0, none⟩)), (13, .int .i64 ((j : Nat) : Int)), (110, undef)] ∧ j ≤ ls.length ∧ GvI S sl ∧ M.good ∧ GvEl p_22 b_7 S g1 ∧ h1 = [K.pt r_25 111 [.int .i64 c.th, .int .i64 c.sl, .int .i64 c.lo, .int .i64 c.bu, .int .i64 S.t, .int .i64 S.part, .int .i64 S.slot, .int .i64 c.th, .int .i64 c.sl, .int .i64 c.lo, .int .i64 c.bu, .int .i64 S.push.t, .int .i64 (lineOf S.push.pc), .int .u64 S.push.top, .int .i64 S.push.slot]] ∧ MemAt l1 p_8 q_9 ((lns c).toNat) (c.th.toNat) M ∧ RMemAt m1 r_10 u_11 ((lns c).toNat) (c.th.toNat) M ∧ K.Sat w0 [h1, g1, gl_12, l1, m1, g_5, g_2, fr] w_) ((fun (j : Nat) (S : GvS) (M : MemM) => ls.length - j) 0 ⟨tt, 1, sl, ⟨tt, 0, 0, sl⟩⟩ (groundM ((lns c).toNat) (c.th.toNat) (2 + c.th + c.sl).toNat ps)) ?_ ?_
   ·
    exact ⟨0, ⟨tt, 1, sl, ⟨tt, 0, 0, sl⟩⟩, (groundM ((lns c).toNat) (c.th.toNat) (2 + c.th + c.sl).toNat ps), g_23, g_26, l_13, m_14, rfl, ⟨by rfl, by rfl, by rfl, by rfl, by rfl, by rfl, by rfl, by rfl, by rfl, by rfl, trivial⟩, (by omega), (GvI.start htt hsl), (hM), h_24, h_27, x_16, y_17, hS.pick [0, 1, 2, 3, 4, 5, 6, 7]⟩
   ·
    clear hS
    intro m_28 F_29 w hI
    obtain ⟨j, S, M, g1, h1, l1, m1, rfl, sl_30, p_31, hSI, p_32, x_33, x_34, x_35, x_36, hS⟩ := hI
    rw [← K.Sl.puts sl_30]; clear sl_30
    refine K.s (K.s (K.g (K.q [.int .i64 ((j : Nat) : Int), .slice b ls.length cap2] ?_)))
    refine K.a (K.QR.len (P := Tryz.prog) rfl rfl Tryz.underlying54) ?_
    by_cases h_37 : (((j : Nat) : Int) : Int) < (((ls.length : Nat) : Int) : Int)
    ·
     refine K.y ((((j : Nat) : Int) : Int) < (((ls.length : Nat) : Int) : Int)) h_37 ?_
     refine K.z (K.t (K.h (K.k (K.t (K.s ?_)))))
     refine K.KW.block ?_
     refine K.s (K.s ?_)
     obtain ⟨b_38, of_39, rfl, _⟩ := hy.at_ (by omega)
     refine K.g (K.q [.slice (some ⟨b_38, of_39, none⟩) ls.length cap2, .int .i64 ((j : Nat) : Int)] ?_)
     refine K.a (K.QR.ix (of_39 + j * 6) 6 rfl rfl rfl Tryz.underlying54 (by kernel_rfl) (by omega) (by first | (simp; done) | omega | (simp; omega))) ?_
     refine K.q [.pointer (some ⟨b_38, of_39 + j * 6, none⟩)] ?_
     refine K.d (.bool ((ls.getD j pk0).step)) ((hy.no hS.chg).ld j (by omega) 0 _ rfl) ?_
     cases hb_40 : (ls.getD j pk0).step
     ·
      refine K.z (K.t (K.f (K.s (K.g (K.q [.pointer (some ⟨p_8, 0, none⟩), .slice (some ⟨b_38, of_39, none⟩) ls.length cap2, .int .i64 ((j : Nat) : Int)] ?_)))))
      refine K.a (K.QR.ix (of_39 + j * 6) 6 rfl rfl rfl Tryz.underlying54 (by kernel_rfl) (by omega) (by first | (simp; done) | omega | (simp; omega))) ?_
      refine K.q [.pointer (some ⟨b_38, of_39 + j * 6 + 1, none⟩)] ?_
      refine K.a (K.QR.ldN [.int .i64 ((ls.getD j pk0).act.kind), .int .i64 ((ls.getD j pk0).act.thread), .int .i64 ((ls.getD j pk0).act.at_), .int .u64 ((ls.getD j pk0).act.old), .int .u64 ((ls.getD j pk0).act.w)] rfl rfl (by kernel_rfl) (by kernel_rfl) (K.cells (K.cl ((hy.no hS.chg).ld j (by omega) 1 _ rfl) (K.cl ((hy.no hS.chg).ld j (by omega) 2 _ rfl) (K.cl ((hy.no hS.chg).ld j (by omega) 3 _ rfl) (K.cl ((hy.no hS.chg).ld j (by omega) 4 _ rfl) (K.cl ((hy.no hS.chg).ld j (by omega) 5 _ rfl) K.cl0))))))) ?_
      refine K.l (K.OW.gcall hS [3] [0, 1, 2, 4, 5, 6, 7] [.pointer (some ⟨p_8, 0, none⟩), .agg #[.int .i64 ((ls.getD j pk0).act.kind), .int .i64 ((ls.getD j pk0).act.thread), .int .i64 ((ls.getD j pk0).act.at_), .int .u64 ((ls.getD j pk0).act.old), .int .u64 ((ls.getD j pk0).act.w)]] (do7_ok _ _ _ _ _ _ _ x_35 (ls.getD j pk0).act (hk j (by omega)).1) ?_)
      clear hS; rintro _ _ w ⟨l_41, rfl, rfl, x_42⟩ hS
      replace hS : K.Sat w0 [l_41, h1, g1, gl_12, m1, g_5, g_2, fr] w := hS
      have hM_43 : (act7 M ((lns c).toNat) (c.th.toNat) (ls.getD j pk0).act).good := act7_good (by assumption) (hk j (by omega)).2
      refine K.z (K.t (K.g (K.q [.pointer (some ⟨r_10, 0, none⟩), .slice (some ⟨b_38, of_39, none⟩) ls.length cap2, .int .i64 ((j : Nat) : Int)] ?_)))
      refine K.a (K.QR.ix (of_39 + j * 6) 6 rfl rfl rfl Tryz.underlying54 (by kernel_rfl) (by omega) (by first | (simp; done) | omega | (simp; omega))) ?_
      refine K.q [.pointer (some ⟨b_38, of_39 + j * 6 + 1, none⟩)] ?_
      refine K.a (K.QR.ldN [.int .i64 ((ls.getD j pk0).act.kind), .int .i64 ((ls.getD j pk0).act.thread), .int .i64 ((ls.getD j pk0).act.at_), .int .u64 ((ls.getD j pk0).act.old), .int .u64 ((ls.getD j pk0).act.w)] rfl rfl (by kernel_rfl) (by kernel_rfl) (K.cells (K.cl ((hy.no hS.chg).ld j (by omega) 1 _ rfl) (K.cl ((hy.no hS.chg).ld j (by omega) 2 _ rfl) (K.cl ((hy.no hS.chg).ld j (by omega) 3 _ rfl) (K.cl ((hy.no hS.chg).ld j (by omega) 4 _ rfl) (K.cl ((hy.no hS.chg).ld j (by omega) 5 _ rfl) K.cl0))))))) ?_
      refine K.l (K.OW.gcall hS [4] [0, 1, 2, 3, 5, 6, 7] [.pointer (some ⟨r_10, 0, none⟩), .agg #[.int .i64 ((ls.getD j pk0).act.kind), .int .i64 ((ls.getD j pk0).act.thread), .int .i64 ((ls.getD j pk0).act.at_), .int .u64 ((ls.getD j pk0).act.old), .int .u64 ((ls.getD j pk0).act.w)]] (must7_ok _ _ _ _ _ _ _ x_36 (ls.getD j pk0).act (hk j (by omega)).1) ?_)
      clear hS; rintro _ _ w ⟨l_44, rfl, rfl, x_45⟩ hS
      replace hS : K.Sat w0 [l_44, l_41, h1, g1, gl_12, g_5, g_2, fr] w := hS
      refine K.z (K.t (K.s (K.g ?_)))
      refine K.a (K.QR.ixA 1 1 rfl rfl rfl Tryz.underlying107 (by kernel_rfl) (by omega) (by first | rfl | simp)) ?_
      refine K.d (.int .i64 sl) ((hS.blk 5 rfl hg_6).cell rfl) ?_
      refine K.q [.int .i64 sl] (K.z (K.t (K.s (K.s ?_))))
      cases hb_46 : S.done
      ·
       refine K.g (K.q [.pointer (some ⟨r_25, 0, none⟩), .pointer (some ⟨r_25, 0, none⟩), .pointer (some ⟨r_25, 5, none⟩)] ?_)
       refine K.d (.int .i64 S.part) ((hS.blk 2 rfl x_34).cell rfl) ?_
       refine K.xe (S.part : Int) (0 : Int) (of_decide_eq_false hb_46) ?_
       refine K.z (K.t (K.f (K.k (K.t (K.s ?_)))))
       refine K.KW.gdrawn [2] hS (by kernel_rfl) ?_
       clear hS; intro w hS
       refine K.p 0 rfl (.pointer (some ⟨p_8, 0, none⟩)) (hS.pick [2]) ?_
       refine K.b 1 rfl (.pointer (some ⟨r_10, 0, none⟩)) (hS.pick [2]) ?_
       refine K.DW.l 2 rfl (by kernel_rfl) rfl (K.OW.gcall hS [1, 0] [2, 3, 4, 5, 6, 7] [.pointer (some ⟨p_8, 0, none⟩), .pointer (some ⟨r_10, 0, none⟩)] (same7_ok _ _ _ _ _ _ _ _ _ _ x_42 x_45) ?_)
       clear hS; rintro _ _ w ⟨rfl, rfl⟩ hS
       replace hS : K.Sat w0 [l_41, l_44, h1, g1, gl_12, g_5, g_2, fr] w := hS
       refine ⟨.inl (hS.pick [2]), ?_⟩
       refine K.b 3 rfl (.bool false) (hS.pick [2]) ?_
       refine K.b 4 rfl (.bool false) (hS.pick [2]) ?_
       refine K.p 5 rfl (.pointer (some ⟨p_22, 0, none⟩)) (hS.pick [2]) ?_
       refine K.p 7 rfl (.pointer (some ⟨r_25, 0, none⟩)) (hS.pick [2]) ?_
       refine K.p 8 rfl (.pointer (some ⟨r_25, 0, none⟩)) (hS.pick [2]) ?_
       refine K.p 9 rfl (.pointer (some ⟨r_25, 5, none⟩)) (hS.pick [2]) ?_
       refine K.o_ 10 rfl (.int .i64 S.part) (fun w hS => ((hS.blk 0 rfl x_34).cell rfl)) (hS.pick [2]) ?_
       refine K.m 11 rfl (fun w hS => K.QR.nice (v := .bool ((S.part : Int) == (0 : Int))) (by kernel_rfl) (congrArg Value.bool (beq_eq_false_iff_ne.2 (of_decide_eq_false hb_46)))) (hS.pick [2]) ?_
       refine K.DW.l 6 rfl (by kernel_rfl) (by kernel_rfl) (K.OW.gcall hS [3] [0, 1, 2, 4, 5, 6, 7] [.pointer (some ⟨p_22, 0, none⟩)] (gvDoneE_ok _ _ _ S _ x_33) ?_)
       clear hS; rintro _ _ w ⟨rfl, rfl⟩ hS
       replace hS : K.Sat w0 [g1, l_41, l_44, h1, gl_12, g_5, g_2, fr] w := hS
       refine ⟨.inl (hS.pick [3]), ?_⟩
       cases hb_47 : S.done
       ·
        refine K.b 12 rfl (.bool false) (hS.pick [3]) ?_
        refine K.b 13 rfl (.bool false) (hS.pick [3]) ?_
        refine K.b 14 rfl (.bool false) (hS.pick [3]) ?_
        refine K.p 15 rfl (.pointer (some ⟨p_22, 0, none⟩)) (hS.pick [3]) ?_
        refine K.p 17 rfl (.int .i64 sl) (hS.pick [3]) ?_
        refine K.DW.l 16 rfl (by kernel_rfl) (by kernel_rfl) (K.OW.gcall hS [0] [1, 2, 3, 4, 5, 6, 7] [.pointer (some ⟨p_22, 0, none⟩)] (gvHoldsV_ok _ _ _ S _ x_33 sl ((if_neg (by rw [hb_47]; decide)).trans hSI.sl)) ?_)
        clear hS; rintro _ _ w ⟨rfl, rfl⟩ hS
        replace hS : K.Sat w0 [g1, l_41, l_44, h1, gl_12, g_5, g_2, fr] w := hS
        refine ⟨.inl (hS.pick [3]), ?_⟩
        refine K.c 18 rfl (K.QR.nice (v := .bool ((sl : Int) != (sl : Int))) (by kernel_rfl) (congrArg Value.bool (bne_eq_false_iff_eq.2 (rfl)))) (hS.pick [3]) ?_
        refine K.b 19 rfl (.bool false) (hS.pick [3]) ?_
        refine K.DW.done (by kernel_rfl) ?_
        refine K.t (K.f (K.k ?_))
        refine K.blk_normal ?_
        refine K.t (K.g (K.q [.int .i64 ((j : Nat) : Int)] ?_))
        refine K.a (K.QR.n64 ((((j : Nat) : Int) : Int) + (1 : Int)) ((j + 1 : Nat) : Int) (by kernel_rfl) (by omega)) ?_
        refine K.q [.int .i64 ((j + 1 : Nat) : Int)] (K.z (K.t ?_))
        refine ⟨_, ?_, j + 1, S, (act7 M ((lns c).toNat) (c.th.toNat) (ls.getD j pk0).act), g1, h1, l_41, l_44, rfl, ⟨by rfl, by rfl, by rfl, by rfl, by rfl, by rfl, by rfl, by rfl, by rfl, by rfl, trivial⟩, (by omega), (hSI), (by assumption), x_33, x_34, x_42, x_45, hS.pick [3, 0, 4, 1, 2, 5, 6, 7]⟩
        omega
       ·cases (hb_47.symm.trans (show S.done = false from hb_46))
      ·
       refine K.g (K.q [.pointer (some ⟨r_25, 0, none⟩), .pointer (some ⟨r_25, 0, none⟩), .pointer (some ⟨r_25, 5, none⟩)] ?_)
       refine K.d (.int .i64 S.part) ((hS.blk 2 rfl x_34).cell rfl) ?_
       refine K.ye (S.part : Int) (0 : Int) (of_decide_eq_true hb_46) ?_
       refine K.z (K.t (K.h (K.g (K.q [.int .i64 (-1)] (K.z (K.t (K.s ?_)))))))
       refine K.KW.gdrawn [2] hS (by kernel_rfl) ?_
       clear hS; intro w hS
       refine K.p 0 rfl (.pointer (some ⟨p_8, 0, none⟩)) (hS.pick [2]) ?_
       refine K.b 1 rfl (.pointer (some ⟨r_10, 0, none⟩)) (hS.pick [2]) ?_
       refine K.DW.l 2 rfl (by kernel_rfl) rfl (K.OW.gcall hS [1, 0] [2, 3, 4, 5, 6, 7] [.pointer (some ⟨p_8, 0, none⟩), .pointer (some ⟨r_10, 0, none⟩)] (same7_ok _ _ _ _ _ _ _ _ _ _ x_42 x_45) ?_)
       clear hS; rintro _ _ w ⟨rfl, rfl⟩ hS
       replace hS : K.Sat w0 [l_41, l_44, h1, g1, gl_12, g_5, g_2, fr] w := hS
       refine ⟨.inl (hS.pick [2]), ?_⟩
       refine K.b 3 rfl (.bool false) (hS.pick [2]) ?_
       refine K.b 4 rfl (.bool false) (hS.pick [2]) ?_
       refine K.p 5 rfl (.pointer (some ⟨p_22, 0, none⟩)) (hS.pick [2]) ?_
       refine K.p 7 rfl (.pointer (some ⟨r_25, 0, none⟩)) (hS.pick [2]) ?_
       refine K.p 8 rfl (.pointer (some ⟨r_25, 0, none⟩)) (hS.pick [2]) ?_
       refine K.p 9 rfl (.pointer (some ⟨r_25, 5, none⟩)) (hS.pick [2]) ?_
       refine K.o_ 10 rfl (.int .i64 S.part) (fun w hS => ((hS.blk 0 rfl x_34).cell rfl)) (hS.pick [2]) ?_
       refine K.m 11 rfl (fun w hS => K.QR.nice (v := .bool ((S.part : Int) == (0 : Int))) (by kernel_rfl) (congrArg Value.bool (beq_iff_eq.2 (of_decide_eq_true hb_46)))) (hS.pick [2]) ?_
       refine K.DW.l 6 rfl (by kernel_rfl) (by kernel_rfl) (K.OW.gcall hS [3] [0, 1, 2, 4, 5, 6, 7] [.pointer (some ⟨p_22, 0, none⟩)] (gvDoneE_ok _ _ _ S _ x_33) ?_)
       clear hS; rintro _ _ w ⟨rfl, rfl⟩ hS
       replace hS : K.Sat w0 [g1, l_41, l_44, h1, gl_12, g_5, g_2, fr] w := hS
       refine ⟨.inl (hS.pick [3]), ?_⟩
       cases hb_48 : S.done
       ·cases (hb_48.symm.trans (show S.done = true from hb_46))
       ·
        refine K.b 12 rfl (.bool false) (hS.pick [3]) ?_
        refine K.b 13 rfl (.bool false) (hS.pick [3]) ?_
        refine K.b 14 rfl (.bool false) (hS.pick [3]) ?_
        refine K.p 15 rfl (.pointer (some ⟨p_22, 0, none⟩)) (hS.pick [3]) ?_
        refine K.p 17 rfl (.int .i64 (-1)) (hS.pick [3]) ?_
        refine K.DW.l 16 rfl (by kernel_rfl) (by kernel_rfl) (K.OW.gcall hS [0] [1, 2, 3, 4, 5, 6, 7] [.pointer (some ⟨p_22, 0, none⟩)] (gvHoldsV_ok _ _ _ S _ x_33 ((-1) : Int) (if_pos hb_48)) ?_)
        clear hS; rintro _ _ w ⟨rfl, rfl⟩ hS
        replace hS : K.Sat w0 [g1, l_41, l_44, h1, gl_12, g_5, g_2, fr] w := hS
        refine ⟨.inl (hS.pick [3]), ?_⟩
        refine K.b 18 rfl (.bool false) (hS.pick [3]) ?_
        refine K.b 19 rfl (.bool false) (hS.pick [3]) ?_
        refine K.DW.done (by kernel_rfl) ?_
        refine K.t (K.f (K.k ?_))
        refine K.blk_normal ?_
        refine K.t (K.g (K.q [.int .i64 ((j : Nat) : Int)] ?_))
        refine K.a (K.QR.n64 ((((j : Nat) : Int) : Int) + (1 : Int)) ((j + 1 : Nat) : Int) (by kernel_rfl) (by omega)) ?_
        refine K.q [.int .i64 ((j + 1 : Nat) : Int)] (K.z (K.t ?_))
        refine ⟨_, ?_, j + 1, S, (act7 M ((lns c).toNat) (c.th.toNat) (ls.getD j pk0).act), g1, h1, l_41, l_44, rfl, ⟨by rfl, by rfl, by rfl, by rfl, by rfl, by rfl, by rfl, by rfl, by rfl, by rfl, trivial⟩, (by omega), (hSI), (by assumption), x_33, x_34, x_42, x_45, hS.pick [3, 0, 4, 1, 2, 5, 6, 7]⟩
        omega
     ·
      refine K.z (K.t (K.h (K.s (K.g (K.q [.pointer (some ⟨p_22, 0, none⟩), .pointer (some ⟨p_8, 0, none⟩)] ?_)))))
      refine K.l (K.OW.gcall hS [1, 2, 3] [0, 4, 5, 6, 7] [.pointer (some ⟨p_22, 0, none⟩), .pointer (some ⟨p_8, 0, none⟩)] (gvStep_ok _ _ _ _ _ _ _ c (by first | assumption | (unfold cfgOk; decide)) S M _ _ _ x_33 hl_15 x_35 (by assumption) hSI.good) ?_)
      clear hS; rintro _ _ w ⟨g_49, l_50, rfl, rfl, h_51, x_52⟩ hS
      replace hS : K.Sat w0 [g_49, gl_12, l_50, h1, m1, g_5, g_2, fr] w := hS
      obtain ⟨hSI2, hM2⟩ := GvI.step (c := c) (n := ((lns c).toNat)) hSI (M := M) (by assumption)
      refine K.q [.bool ((gvStep c ((lns c).toNat) S M).1.done)] (K.z (K.t (K.s ?_)))
      cases hb_53 : (gvStep c ((lns c).toNat) S M).1.done
      ·
       refine K.g (K.q [.pointer (some ⟨r_25, 0, none⟩), .pointer (some ⟨r_10, 0, none⟩)] ?_)
       refine K.l (K.OW.gcall hS [3, 4] [0, 1, 2, 5, 6, 7] [.pointer (some ⟨r_25, 0, none⟩), .pointer (some ⟨r_10, 0, none⟩)] (rgStep_ok _ _ _ _ _ _ c (by first | assumption | (unfold cfgOk; decide)) S M _ _ hSI.pc hSI.q x_34 x_36 (by assumption) hSI.good) ?_)
       clear hS; rintro _ _ w ⟨g_54, l_55, rfl, rfl, h_56, x_57⟩ hS
       replace hS : K.Sat w0 [g_54, l_55, g_49, gl_12, l_50, g_5, g_2, fr] w := hS
       refine K.z (K.t (K.s (K.g (K.q [.bool false, .pointer (some ⟨r_25, 0, none⟩), .pointer (some ⟨r_25, 0, none⟩), .pointer (some ⟨r_25, 5, none⟩)] ?_))))
       refine K.d (.int .i64 ((gvStep c ((lns c).toNat) S M).1.part)) ((hS.blk 0 rfl h_56).cell rfl) ?_
       refine K.xe ((gvStep c ((lns c).toNat) S M).1.part : Int) (0 : Int) (of_decide_eq_false hb_53) ?_
       refine K.q [.bool false] (K.z (K.t (K.f (K.k (K.t (K.s (K.g ?_)))))))
       refine K.a (K.QR.ixA 1 1 rfl rfl rfl Tryz.underlying107 (by kernel_rfl) (by omega) (by first | rfl | simp)) ?_
       refine K.d (.int .i64 sl) ((hS.blk 5 rfl hg_6).cell rfl) ?_
       refine K.q [.int .i64 sl] (K.z (K.t (K.s (K.s (K.g (K.q [.pointer (some ⟨r_25, 0, none⟩), .pointer (some ⟨r_25, 0, none⟩), .pointer (some ⟨r_25, 5, none⟩)] ?_))))))
       refine K.d (.int .i64 ((gvStep c ((lns c).toNat) S M).1.part)) ((hS.blk 0 rfl h_56).cell rfl) ?_
       refine K.xe ((gvStep c ((lns c).toNat) S M).1.part : Int) (0 : Int) (of_decide_eq_false hb_53) ?_
       refine K.z (K.t (K.f (K.k (K.t (K.s ?_)))))
       refine K.KW.gdrawn [0] hS (by kernel_rfl) ?_
       clear hS; intro w hS
       refine K.p 0 rfl (.pointer (some ⟨p_8, 0, none⟩)) (hS.pick [0]) ?_
       refine K.b 1 rfl (.pointer (some ⟨r_10, 0, none⟩)) (hS.pick [0]) ?_
       refine K.DW.l 2 rfl (by kernel_rfl) rfl (K.OW.gcall hS [4, 1] [0, 2, 3, 5, 6, 7] [.pointer (some ⟨p_8, 0, none⟩), .pointer (some ⟨r_10, 0, none⟩)] (same7_ok _ _ _ _ _ _ _ _ _ _ x_52 x_57) ?_)
       clear hS; rintro _ _ w ⟨rfl, rfl⟩ hS
       replace hS : K.Sat w0 [l_50, l_55, g_54, g_49, gl_12, g_5, g_2, fr] w := hS
       refine ⟨.inl (hS.pick [2]), ?_⟩
       refine K.b 3 rfl (.bool false) (hS.pick [2]) ?_
       refine K.b 4 rfl (.bool false) (hS.pick [2]) ?_
       refine K.p 5 rfl (.pointer (some ⟨p_22, 0, none⟩)) (hS.pick [2]) ?_
       refine K.p 7 rfl (.pointer (some ⟨r_25, 0, none⟩)) (hS.pick [2]) ?_
       refine K.p 8 rfl (.pointer (some ⟨r_25, 0, none⟩)) (hS.pick [2]) ?_
       refine K.p 9 rfl (.pointer (some ⟨r_25, 5, none⟩)) (hS.pick [2]) ?_
       refine K.o_ 10 rfl (.int .i64 ((gvStep c ((lns c).toNat) S M).1.part)) (fun w hS => ((hS.blk 0 rfl h_56).cell rfl)) (hS.pick [2]) ?_
       refine K.m 11 rfl (fun w hS => K.QR.nice (v := .bool (((gvStep c ((lns c).toNat) S M).1.part : Int) == (0 : Int))) (by kernel_rfl) (congrArg Value.bool (beq_eq_false_iff_ne.2 (of_decide_eq_false hb_53)))) (hS.pick [2]) ?_
       refine K.DW.l 6 rfl (by kernel_rfl) (by kernel_rfl) (K.OW.gcall hS [3] [0, 1, 2, 4, 5, 6, 7] [.pointer (some ⟨p_22, 0, none⟩)] (gvDoneE_ok _ _ _ ((gvStep c ((lns c).toNat) S M).1) _ h_51) ?_)
       clear hS; rintro _ _ w ⟨rfl, rfl⟩ hS
       replace hS : K.Sat w0 [g_49, l_50, l_55, g_54, gl_12, g_5, g_2, fr] w := hS
       refine ⟨.inl (hS.pick [3]), ?_⟩
       cases hb_58 : (gvStep c ((lns c).toNat) S M).1.done
       ·
        refine K.b 12 rfl (.bool false) (hS.pick [3]) ?_
        refine K.b 13 rfl (.bool false) (hS.pick [3]) ?_
        refine K.b 14 rfl (.bool false) (hS.pick [3]) ?_
        refine K.p 15 rfl (.pointer (some ⟨p_22, 0, none⟩)) (hS.pick [3]) ?_
        refine K.p 17 rfl (.int .i64 sl) (hS.pick [3]) ?_
        refine K.DW.l 16 rfl (by kernel_rfl) (by kernel_rfl) (K.OW.gcall hS [0] [1, 2, 3, 4, 5, 6, 7] [.pointer (some ⟨p_22, 0, none⟩)] (gvHoldsV_ok _ _ _ ((gvStep c ((lns c).toNat) S M).1) _ h_51 sl ((if_neg (by rw [hb_58]; decide)).trans hSI2.sl)) ?_)
        clear hS; rintro _ _ w ⟨rfl, rfl⟩ hS
        replace hS : K.Sat w0 [g_49, l_50, l_55, g_54, gl_12, g_5, g_2, fr] w := hS
        refine ⟨.inl (hS.pick [3]), ?_⟩
        refine K.c 18 rfl (K.QR.nice (v := .bool ((sl : Int) != (sl : Int))) (by kernel_rfl) (congrArg Value.bool (bne_eq_false_iff_eq.2 (rfl)))) (hS.pick [3]) ?_
        refine K.b 19 rfl (.bool false) (hS.pick [3]) ?_
        refine K.DW.done (by kernel_rfl) ?_
        refine K.t (K.f (K.k ?_))
        refine K.blk_normal ?_
        refine K.t (K.g (K.q [.int .i64 ((j : Nat) : Int)] ?_))
        refine K.a (K.QR.n64 ((((j : Nat) : Int) : Int) + (1 : Int)) ((j + 1 : Nat) : Int) (by kernel_rfl) (by omega)) ?_
        refine K.q [.int .i64 ((j + 1 : Nat) : Int)] (K.z (K.t ?_))
        refine ⟨_, ?_, j + 1, ((gvStep c ((lns c).toNat) S M).1), ((gvStep c ((lns c).toNat) S M).2), g_49, g_54, l_50, l_55, rfl, ⟨by rfl, by rfl, by rfl, by rfl, by rfl, by rfl, by rfl, by rfl, by rfl, by rfl, trivial⟩, (by omega), (hSI2), (hM2), h_51, h_56, x_52, x_57, hS.pick [3, 0, 4, 1, 2, 5, 6, 7]⟩
        omega
       ·cases (hb_58.symm.trans (show (gvStep c ((lns c).toNat) S M).1.done = false from hb_53))
      ·
       refine K.g (K.q [.pointer (some ⟨r_25, 0, none⟩), .pointer (some ⟨r_10, 0, none⟩)] ?_)
       refine K.l (K.OW.gcall hS [3, 4] [0, 1, 2, 5, 6, 7] [.pointer (some ⟨r_25, 0, none⟩), .pointer (some ⟨r_10, 0, none⟩)] (rgStep_ok _ _ _ _ _ _ c (by first | assumption | (unfold cfgOk; decide)) S M _ _ hSI.pc hSI.q x_34 x_36 (by assumption) hSI.good) ?_)
       clear hS; rintro _ _ w ⟨g_59, l_60, rfl, rfl, h_61, x_62⟩ hS
       replace hS : K.Sat w0 [g_59, l_60, g_49, gl_12, l_50, g_5, g_2, fr] w := hS
       refine K.z (K.t (K.s (K.g (K.q [.bool true, .pointer (some ⟨r_25, 0, none⟩), .pointer (some ⟨r_25, 0, none⟩), .pointer (some ⟨r_25, 5, none⟩)] ?_))))
       refine K.d (.int .i64 ((gvStep c ((lns c).toNat) S M).1.part)) ((hS.blk 0 rfl h_61).cell rfl) ?_
       refine K.ye ((gvStep c ((lns c).toNat) S M).1.part : Int) (0 : Int) (of_decide_eq_true hb_53) ?_
       refine K.q [.bool false] (K.z (K.t (K.f (K.k (K.t (K.s (K.g ?_)))))))
       refine K.a (K.QR.ixA 1 1 rfl rfl rfl Tryz.underlying107 (by kernel_rfl) (by omega) (by first | rfl | simp)) ?_
       refine K.d (.int .i64 sl) ((hS.blk 5 rfl hg_6).cell rfl) ?_
       refine K.q [.int .i64 sl] (K.z (K.t (K.s (K.s (K.g (K.q [.pointer (some ⟨r_25, 0, none⟩), .pointer (some ⟨r_25, 0, none⟩), .pointer (some ⟨r_25, 5, none⟩)] ?_))))))
       refine K.d (.int .i64 ((gvStep c ((lns c).toNat) S M).1.part)) ((hS.blk 0 rfl h_61).cell rfl) ?_
       refine K.ye ((gvStep c ((lns c).toNat) S M).1.part : Int) (0 : Int) (of_decide_eq_true hb_53) ?_
       refine K.z (K.t (K.h (K.g (K.q [.int .i64 (-1)] (K.z (K.t (K.s ?_)))))))
       refine K.KW.gdrawn [0] hS (by kernel_rfl) ?_
       clear hS; intro w hS
       refine K.p 0 rfl (.pointer (some ⟨p_8, 0, none⟩)) (hS.pick [0]) ?_
       refine K.b 1 rfl (.pointer (some ⟨r_10, 0, none⟩)) (hS.pick [0]) ?_
       refine K.DW.l 2 rfl (by kernel_rfl) rfl (K.OW.gcall hS [4, 1] [0, 2, 3, 5, 6, 7] [.pointer (some ⟨p_8, 0, none⟩), .pointer (some ⟨r_10, 0, none⟩)] (same7_ok _ _ _ _ _ _ _ _ _ _ x_52 x_62) ?_)
       clear hS; rintro _ _ w ⟨rfl, rfl⟩ hS
       replace hS : K.Sat w0 [l_50, l_60, g_59, g_49, gl_12, g_5, g_2, fr] w := hS
       refine ⟨.inl (hS.pick [2]), ?_⟩
       refine K.b 3 rfl (.bool false) (hS.pick [2]) ?_
       refine K.b 4 rfl (.bool false) (hS.pick [2]) ?_
       refine K.p 5 rfl (.pointer (some ⟨p_22, 0, none⟩)) (hS.pick [2]) ?_
       refine K.p 7 rfl (.pointer (some ⟨r_25, 0, none⟩)) (hS.pick [2]) ?_
       refine K.p 8 rfl (.pointer (some ⟨r_25, 0, none⟩)) (hS.pick [2]) ?_
       refine K.p 9 rfl (.pointer (some ⟨r_25, 5, none⟩)) (hS.pick [2]) ?_
       refine K.o_ 10 rfl (.int .i64 ((gvStep c ((lns c).toNat) S M).1.part)) (fun w hS => ((hS.blk 0 rfl h_61).cell rfl)) (hS.pick [2]) ?_
       refine K.m 11 rfl (fun w hS => K.QR.nice (v := .bool (((gvStep c ((lns c).toNat) S M).1.part : Int) == (0 : Int))) (by kernel_rfl) (congrArg Value.bool (beq_iff_eq.2 (of_decide_eq_true hb_53)))) (hS.pick [2]) ?_
       refine K.DW.l 6 rfl (by kernel_rfl) (by kernel_rfl) (K.OW.gcall hS [3] [0, 1, 2, 4, 5, 6, 7] [.pointer (some ⟨p_22, 0, none⟩)] (gvDoneE_ok _ _ _ ((gvStep c ((lns c).toNat) S M).1) _ h_51) ?_)
       clear hS; rintro _ _ w ⟨rfl, rfl⟩ hS
       replace hS : K.Sat w0 [g_49, l_50, l_60, g_59, gl_12, g_5, g_2, fr] w := hS
       refine ⟨.inl (hS.pick [3]), ?_⟩
       cases hb_63 : (gvStep c ((lns c).toNat) S M).1.done
       ·cases (hb_63.symm.trans (show (gvStep c ((lns c).toNat) S M).1.done = true from hb_53))
       ·
        refine K.b 12 rfl (.bool false) (hS.pick [3]) ?_
        refine K.b 13 rfl (.bool false) (hS.pick [3]) ?_
        refine K.b 14 rfl (.bool false) (hS.pick [3]) ?_
        refine K.p 15 rfl (.pointer (some ⟨p_22, 0, none⟩)) (hS.pick [3]) ?_
        refine K.p 17 rfl (.int .i64 (-1)) (hS.pick [3]) ?_
        refine K.DW.l 16 rfl (by kernel_rfl) (by kernel_rfl) (K.OW.gcall hS [0] [1, 2, 3, 4, 5, 6, 7] [.pointer (some ⟨p_22, 0, none⟩)] (gvHoldsV_ok _ _ _ ((gvStep c ((lns c).toNat) S M).1) _ h_51 ((-1) : Int) (if_pos hb_63)) ?_)
        clear hS; rintro _ _ w ⟨rfl, rfl⟩ hS
        replace hS : K.Sat w0 [g_49, l_50, l_60, g_59, gl_12, g_5, g_2, fr] w := hS
        refine ⟨.inl (hS.pick [3]), ?_⟩
        refine K.b 18 rfl (.bool false) (hS.pick [3]) ?_
        refine K.b 19 rfl (.bool false) (hS.pick [3]) ?_
        refine K.DW.done (by kernel_rfl) ?_
        refine K.t (K.f (K.k ?_))
        refine K.blk_normal ?_
        refine K.t (K.g (K.q [.int .i64 ((j : Nat) : Int)] ?_))
        refine K.a (K.QR.n64 ((((j : Nat) : Int) : Int) + (1 : Int)) ((j + 1 : Nat) : Int) (by kernel_rfl) (by omega)) ?_
        refine K.q [.int .i64 ((j + 1 : Nat) : Int)] (K.z (K.t ?_))
        refine ⟨_, ?_, j + 1, ((gvStep c ((lns c).toNat) S M).1), ((gvStep c ((lns c).toNat) S M).2), g_49, g_59, l_50, l_60, rfl, ⟨by rfl, by rfl, by rfl, by rfl, by rfl, by rfl, by rfl, by rfl, by rfl, by rfl, trivial⟩, (by omega), (hSI2), (hM2), h_51, h_61, x_52, x_62, hS.pick [3, 0, 4, 1, 2, 5, 6, 7]⟩
        omega
    ·
     refine K.x ((((j : Nat) : Int) : Int) < (((ls.length : Nat) : Int) : Int)) h_37 ?_
     refine K.z (K.t (K.f ?_))
     refine K.KW.exit ?_
     refine K.thn_exit ?_
     refine K.thn_exit ?_
     refine K.blk_hit ?_
     refine K.t (K.s (K.g ?_))
     refine K.l (K.OW.gcall hS [] [0, 1, 2, 3, 4, 5, 6, 7] [] (awake12_ok _) ?_)
     clear hS; rintro _ _ w ⟨rfl, rfl⟩ hS
     replace hS : K.Sat w0 [h1, g1, gl_12, l1, m1, g_5, g_2, fr] w := hS
     refine K.q [.bool true] (K.z (K.t (K.r ?_)))
     refine ⟨.inr rfl, rfl, (.bool true), K.res1 rfl rfl, [], ?_, hS.pick [7]⟩
     exact rfl
 ·
  replace hS : K.Sat w0 [g_5, g_2, fr] w := hS.of (by simp [K.pick, K.nth])
  refine K.q [.tuple #[.pointer none, .pointer none, .pointer none, .bool false], .pointer none, .pointer none, .pointer none, .bool false, .pointer none, .pointer none, .pointer none, .bool false] (K.z (K.t (K.s (K.s (K.g (K.q [.bool false, .bool true, .bool true] (K.n_ (K.n_ (K.n_ (K.q [.bool true] (K.z (K.t (K.h (K.s ?_))))))))))))))
  refine K.g ?_
  refine K.l (K.OW.gcall hS [] [0, 1, 2] [] (awake12_ok _) ?_)
  clear hS; rintro _ _ w ⟨rfl, rfl⟩ hS
  replace hS : K.Sat w0 [g_5, g_2, fr] w := hS
  refine K.q [.bool true] (K.z (K.t (K.r (K.u ?_))))
  refine ⟨.inr rfl, rfl, (.bool true), K.res1 rfl rfl, [], ?_, hS.pick [2]⟩
  exact rfl
end Go.Proofs.YtbfafebfkdbglaaGreat
