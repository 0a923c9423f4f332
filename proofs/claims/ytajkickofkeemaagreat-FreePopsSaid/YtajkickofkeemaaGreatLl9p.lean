/- The statement FreePops. -/
import Derived.Test.YtajkickofkeemaaGreatFl9c
import Derived.Test.YtajkickofkeemaaGreatKn
namespace Go.Proofs.YtajkickofkeemaaGreat
open Go.RowKit
set_option linter.unusedVariables false
attribute [local irreducible] K.KW K.RW K.DW K.OW K.QR K.KC

set_option maxHeartbeats 1000000 in
set_option maxRecDepth 100000 in
theorem l9pops_ok (w0 : World) (c : Cfg) (pa : Option Addr) (cp : Nat) (ps : List PutM) (hg : ∀ j, j < ps.length → isInt (ps.getD j pu0).at_ ∧ isW (ps.getD j pu0).w) (hxp : K.RowE w0 pa ps.length 2 (fun i => cPut (ps.getD i pu0))) (tt : Int) (htt : isInt tt) (b : Option Addr) (cap2 : Nat) (ls : List PokeM) (hk : ∀ j, j < ls.length → (ls.getD j pk0).act.good ∧ isW (ls.getD j pk0).act.w) (hl : ls.length ≤ 9223372036854775807) (hy : K.RowE w0 b ls.length 6 (fun i => cPoke (ls.getD i pk0))) :
  K.GC Tryz.prog w0 4 #[.agg #[.int .i64 c.th, .int .i64 c.sl, .int .i64 c.lo, .int .i64 c.bu, .slice pa ps.length cp], .int .i64 tt, .slice b ls.length cap2] [] (fun v post => v = .bool true) := by
 refine K.GC.mk (n := 100) Tryz.func4 rfl rfl [.agg #[.int .i64 c.th, .int .i64 c.sl, .int .i64 c.lo, .int .i64 c.bu, .slice pa ps.length cp], .int .i64 tt, .slice b ls.length cap2] rfl rfl ?_
 intro fr w hS
 replace hS : K.Sat w0 [fr] w := hS
 refine K.s (K.g ?_)
 refine K.l (K.OW.gnew 26 [.int .i64 c.th, .int .i64 c.sl, .int .i64 c.lo, .int .i64 c.bu, .slice pa ps.length cp] hS ?_)
 clear hS; intro w r_1 g_2 hg_3 hS
 refine K.q [.bool false] (K.z (K.t (K.s (K.g ?_))))
 refine K.a (K.QR.ldN [.int .i64 c.th, .int .i64 c.sl, .int .i64 c.lo, .int .i64 c.bu, .slice pa ps.length cp] rfl rfl (by kernel_rfl) (by kernel_rfl) (K.cells (K.cl ((hS.blk 0 rfl hg_3).cell rfl) (K.cl ((hS.blk 0 rfl hg_3).cell rfl) (K.cl ((hS.blk 0 rfl hg_3).cell rfl) (K.cl ((hS.blk 0 rfl hg_3).cell rfl) (K.cl ((hS.blk 0 rfl hg_3).cell rfl) K.cl0))))))) ?_
 refine K.l (K.OW.gcall hS [52] [0, 1] [.agg #[.int .i64 c.th, .int .i64 c.sl, .int .i64 c.lo, .int .i64 c.bu, .slice pa ps.length cp]] (lay_ok _ c _ _ ps (fun j hj => (hg j hj).1) _ (fun w h => hxp.no h.chg)) ?_)
 clear hS; rintro _ _ w (⟨b_4, p_5, q_6, r_7, u_8, _, _, gl_9, l_10, m_11, rfl, rfl, hl_12, x_13, y_14, rfl, rfl, hf_15, hp_16⟩ | ⟨rfl, rfl, h_17⟩) hS
 ·
  replace hS : K.Sat w0 [gl_9, l_10, m_11, g_2, fr] w := hS.of (by simp [K.pick, K.nth])
  have hc : cfgOk c := hf_15.1
  obtain ⟨hfa, hfb⟩ : (((1 ≤ c.th ∧ c.th ≤ 64) ∧ (1 ≤ c.sl ∧ c.sl ≤ 65536) ∧ (1 ≤ c.lo ∧ c.lo ≤ 64) ∧ (1 ≤ c.bu ∧ c.bu ≤ 64)) ∧ (c.th ≤ 6 ∧ c.sl ≤ 30 ∧ c.lo ≤ 8 ∧ c.bu ≤ 8)) := (by have h := hf_15; unfold fewC cfgOk at h; exact h)
  have hM : (groundM ((lns c).toNat) (c.th.toNat) (2 + c.th + c.sl).toNat ps).good := ground_good (fun j hj => (hg j hj).2)
  have hP : (((groundM ((lns c).toNat) (c.th.toNat) (2 + c.th + c.sl).toNat ps).pass.length : Nat) : Int) = 2 + c.th + c.sl := by rw [ground_pass]; omega
  refine K.q [.tuple #[.pointer (some ⟨b_4, 0, none⟩), .pointer (some ⟨p_5, 0, none⟩), .pointer (some ⟨r_7, 0, none⟩), .bool true], .pointer (some ⟨b_4, 0, none⟩), .pointer (some ⟨p_5, 0, none⟩), .pointer (some ⟨r_7, 0, none⟩), .bool true, .pointer (some ⟨b_4, 0, none⟩), .pointer (some ⟨p_5, 0, none⟩), .pointer (some ⟨r_7, 0, none⟩), .bool true] (K.z (K.t (K.s (K.s (K.g (K.q [.bool true, .bool false, .bool false, .slice b ls.length cap2] ?_))))))
  refine K.a (K.QR.len (P := Tryz.prog) rfl rfl Tryz.underlying28) ?_
  by_cases h_18 : (((ls.length : Nat) : Int) : Int) > (60 : Int)
  ·
   refine K.y ((((ls.length : Nat) : Int) : Int) > (60 : Int)) h_18 ?_
   refine K.q [.bool true] (K.z (K.t (K.h (K.s (K.g ?_)))))
   refine K.l (K.OW.gcall hS [] [0, 1, 2, 3, 4] [] (awake09_ok _) ?_)
   clear hS; rintro _ _ w ⟨rfl, rfl⟩ hS
   replace hS : K.Sat w0 [gl_9, l_10, m_11, g_2, fr] w := hS
   refine K.q [.bool true] (K.z (K.t (K.r (K.u ?_))))
   refine ⟨.inr rfl, rfl, (.bool true), K.res1 rfl rfl, [], ?_, hS.pick [4]⟩
   exact rfl
  ·
   refine K.x ((((ls.length : Nat) : Int) : Int) > (60 : Int)) h_18 ?_
   refine K.q [.bool false] (K.z (K.t (K.f (K.k (K.t (K.s (K.g (K.q [.pointer (some ⟨b_4, 0, none⟩), .int .i64 tt] ?_))))))))
   refine K.l (K.OW.gcall hS [] [0, 1, 2, 3, 4] [.pointer (some ⟨b_4, 0, none⟩), .int .i64 tt] (newPop_ok _ _ tt) ?_)
   clear hS; rintro _ _ w ⟨p_19, g_20, rfl, rfl, h_21⟩ hS
   replace hS : K.Sat w0 [g_20, gl_9, l_10, m_11, g_2, fr] w := hS
   have hS_22 : PopS.good (⟨tt, 0, 0, 0, -1⟩ : PopS) := popInit (by omega)
   refine K.q [.pointer (some ⟨p_19, 0, none⟩)] (K.z (K.t (K.s (K.g (K.q [.pointer (some ⟨r_1, 0, none⟩)] ?_)))))
   refine K.a (K.QR.ldN [.int .i64 c.th, .int .i64 c.sl, .int .i64 c.lo, .int .i64 c.bu] rfl rfl (by kernel_rfl) (by kernel_rfl) (K.cells (K.cl ((hS.blk 4 rfl hg_3).cell rfl) (K.cl ((hS.blk 4 rfl hg_3).cell rfl) (K.cl ((hS.blk 4 rfl hg_3).cell rfl) (K.cl ((hS.blk 4 rfl hg_3).cell rfl) K.cl0)))))) ?_
   refine K.q [.int .i64 tt] ?_
   refine K.a (K.QR.bd [(0, .agg #[.int .i64 c.th, .int .i64 c.sl, .int .i64 c.lo, .int .i64 c.bu]), (1, .int .i64 tt), (2, .int .i64 1), (5, .int .i64 (-1))] [.int .i64 c.th, .int .i64 c.sl, .int .i64 c.lo, .int .i64 c.bu, .int .i64 tt, .int .i64 1, .int .u64 0, .int .u64 0, .int .i64 (-1)] rfl rfl (by kernel_rfl)) ?_
   refine K.l (K.OW.gnew 60 [.int .i64 c.th, .int .i64 c.sl, .int .i64 c.lo, .int .i64 c.bu, .int .i64 tt, .int .i64 1, .int .u64 0, .int .u64 0, .int .i64 (-1)] hS ?_)
   clear hS; intro w r_23 g_24 hg_25 hS
   refine K.q [.pointer (some ⟨r_23, 0, none⟩)] (K.z (K.t (K.s (K.s (K.g (K.q [.int .i64 0] (K.z (K.t ?_))))))))
   refine K.KW.block ?_
   refine K.KW.loop (fun m_ F_ w_ => ∃ (j : Nat) (S : PopS) (M : MemM) (g1 : K.Cs) (h1 : K.Cs) (l1 : K.Cs) (m1 : K.Cs), m_ = ls.length - j ∧ K.Sl F_ [(0, .agg #[.int .i64 c.th, .int .i64 c.sl, .int .i64 c.lo, .int .i64 c.bu, .slice pa ps.length cp]), (1, .int .i64 tt), (2, .slice b ls.length cap2), (8, .pointer (some ⟨p_5, 0, none⟩)), (9, .pointer (some ⟨r_7, 0, none⟩)), (11, .pointer (some ⟨p_19, 0, none⟩)), (12, .pointer (some ⟨r_23, 0, none⟩)), (13, .int .i64 ((j : Nat) : Int)), (100, undef)] ∧ j ≤ ls.length ∧ S.good ∧ pcOk S.pc ∧ M.good ∧ g1 = [K.pt p_19 120 [.pointer (some ⟨b_4, 0, none⟩), .int .i64 S.t, .int .i64 S.pc, .int .u64 S.top, .int .u64 S.next, .int .i64 S.slot]] ∧ h1 = [K.pt r_23 60 [.int .i64 c.th, .int .i64 c.sl, .int .i64 c.lo, .int .i64 c.bu, .int .i64 S.t, .int .i64 (lineOf S.pc), .int .u64 S.top, .int .u64 S.next, .int .i64 S.slot]] ∧ MemAt l1 p_5 q_6 ((lns c).toNat) (c.th.toNat) M ∧ RMemAt m1 r_7 u_8 ((lns c).toNat) (c.th.toNat) M ∧ K.Sat w0 [h1, g1, gl_9, l1, m1, g_2, fr] w_) ((fun (j : Nat) (S : PopS) (M : MemM) => ls.length - j) 0 ⟨tt, 0, 0, 0, -1⟩ (groundM ((lns c).toNat) (c.th.toNat) (2 + c.th + c.sl).toNat ps)) ?_ ?_
   ·
    exact ⟨0, ⟨tt, 0, 0, 0, -1⟩, (groundM ((lns c).toNat) (c.th.toNat) (2 + c.th + c.sl).toNat ps), g_20, g_24, l_10, m_11, rfl, ⟨by rfl, by rfl, by rfl, by rfl, by rfl, by rfl, by rfl, by rfl, by rfl, trivial⟩, (by omega), (popInit (by omega)), (by exact .inl rfl), (hM), h_21, hg_25, x_13, y_14, hS.pick [0, 1, 2, 3, 4, 5, 6]⟩
   ·
    clear hS
    intro m_26 F_27 w hI
    obtain ⟨j, S, M, g1, h1, l1, m1, rfl, sl_28, p_29, p_30, p_31, p_32, x_33, x_34, x_35, x_36, hS⟩ := hI
    rw [← K.Sl.puts sl_28]; clear sl_28
    refine K.s (K.s (K.g (K.q [.int .i64 ((j : Nat) : Int), .slice b ls.length cap2] ?_)))
    refine K.a (K.QR.len (P := Tryz.prog) rfl rfl Tryz.underlying28) ?_
    by_cases h_37 : (((j : Nat) : Int) : Int) < (((ls.length : Nat) : Int) : Int)
    ·
     refine K.y ((((j : Nat) : Int) : Int) < (((ls.length : Nat) : Int) : Int)) h_37 ?_
     refine K.z (K.t (K.h (K.k (K.t (K.s ?_)))))
     refine K.KW.block ?_
     refine K.s (K.s ?_)
     obtain ⟨b_38, of_39, rfl, _⟩ := hy.at_ (by omega)
     refine K.g (K.q [.slice (some ⟨b_38, of_39, none⟩) ls.length cap2, .int .i64 ((j : Nat) : Int)] ?_)
     refine K.a (K.QR.ix (of_39 + j * 6) 6 rfl rfl rfl Tryz.underlying28 (by kernel_rfl) (by omega) (by first | (simp; done) | omega | (simp; omega))) ?_
     refine K.q [.pointer (some ⟨b_38, of_39 + j * 6, none⟩)] ?_
     refine K.d (.bool ((ls.getD j pk0).step)) ((hy.no hS.chg).ld j (by omega) 0 _ rfl) ?_
     cases hb_40 : (ls.getD j pk0).step
     ·
      refine K.z (K.t (K.f (K.s (K.g (K.q [.pointer (some ⟨p_5, 0, none⟩), .slice (some ⟨b_38, of_39, none⟩) ls.length cap2, .int .i64 ((j : Nat) : Int)] ?_)))))
      refine K.a (K.QR.ix (of_39 + j * 6) 6 rfl rfl rfl Tryz.underlying28 (by kernel_rfl) (by omega) (by first | (simp; done) | omega | (simp; omega))) ?_
      refine K.q [.pointer (some ⟨b_38, of_39 + j * 6 + 1, none⟩)] ?_
      refine K.a (K.QR.ldN [.int .i64 ((ls.getD j pk0).act.kind), .int .i64 ((ls.getD j pk0).act.thread), .int .i64 ((ls.getD j pk0).act.at_), .int .u64 ((ls.getD j pk0).act.old), .int .u64 ((ls.getD j pk0).act.w)] rfl rfl (by kernel_rfl) (by kernel_rfl) (K.cells (K.cl ((hy.no hS.chg).ld j (by omega) 1 _ rfl) (K.cl ((hy.no hS.chg).ld j (by omega) 2 _ rfl) (K.cl ((hy.no hS.chg).ld j (by omega) 3 _ rfl) (K.cl ((hy.no hS.chg).ld j (by omega) 4 _ rfl) (K.cl ((hy.no hS.chg).ld j (by omega) 5 _ rfl) K.cl0))))))) ?_
      refine K.l (K.OW.gcall hS [3] [0, 1, 2, 4, 5, 6] [.pointer (some ⟨p_5, 0, none⟩), .agg #[.int .i64 ((ls.getD j pk0).act.kind), .int .i64 ((ls.getD j pk0).act.thread), .int .i64 ((ls.getD j pk0).act.at_), .int .u64 ((ls.getD j pk0).act.old), .int .u64 ((ls.getD j pk0).act.w)]] (do7_ok _ _ _ _ _ _ _ x_35 (ls.getD j pk0).act (hk j (by omega)).1) ?_)
      clear hS; rintro _ _ w ⟨l_41, rfl, rfl, x_42⟩ hS
      replace hS : K.Sat w0 [l_41, h1, g1, gl_9, m1, g_2, fr] w := hS
      have hM_43 : (act7 M ((lns c).toNat) (c.th.toNat) (ls.getD j pk0).act).good := act7_good (by assumption) (hk j (by omega)).2
      refine K.z (K.t (K.g (K.q [.pointer (some ⟨r_7, 0, none⟩), .slice (some ⟨b_38, of_39, none⟩) ls.length cap2, .int .i64 ((j : Nat) : Int)] ?_)))
      refine K.a (K.QR.ix (of_39 + j * 6) 6 rfl rfl rfl Tryz.underlying28 (by kernel_rfl) (by omega) (by first | (simp; done) | omega | (simp; omega))) ?_
      refine K.q [.pointer (some ⟨b_38, of_39 + j * 6 + 1, none⟩)] ?_
      refine K.a (K.QR.ldN [.int .i64 ((ls.getD j pk0).act.kind), .int .i64 ((ls.getD j pk0).act.thread), .int .i64 ((ls.getD j pk0).act.at_), .int .u64 ((ls.getD j pk0).act.old), .int .u64 ((ls.getD j pk0).act.w)] rfl rfl (by kernel_rfl) (by kernel_rfl) (K.cells (K.cl ((hy.no hS.chg).ld j (by omega) 1 _ rfl) (K.cl ((hy.no hS.chg).ld j (by omega) 2 _ rfl) (K.cl ((hy.no hS.chg).ld j (by omega) 3 _ rfl) (K.cl ((hy.no hS.chg).ld j (by omega) 4 _ rfl) (K.cl ((hy.no hS.chg).ld j (by omega) 5 _ rfl) K.cl0))))))) ?_
      refine K.l (K.OW.gcall hS [4] [0, 1, 2, 3, 5, 6] [.pointer (some ⟨r_7, 0, none⟩), .agg #[.int .i64 ((ls.getD j pk0).act.kind), .int .i64 ((ls.getD j pk0).act.thread), .int .i64 ((ls.getD j pk0).act.at_), .int .u64 ((ls.getD j pk0).act.old), .int .u64 ((ls.getD j pk0).act.w)]] (must7_ok _ _ _ _ _ _ _ x_36 (ls.getD j pk0).act (hk j (by omega)).1) ?_)
      clear hS; rintro _ _ w ⟨l_44, rfl, rfl, x_45⟩ hS
      replace hS : K.Sat w0 [l_44, l_41, h1, g1, gl_9, g_2, fr] w := hS
      refine K.z (K.t (K.s ?_))
      by_cases h_46 : S.pc = 3
      ·
       refine K.KW.gdrawn [2] hS (by kernel_rfl) ?_
       clear hS; intro w hS
       refine K.DW.q 0 (by kernel_rfl) rfl rfl (by kernel_rfl) rfl (fun w hS => K.QR.k (v := .pointer (some ⟨p_5, 0, none⟩)) (by kernel_rfl)) (hS.pick [2]) ?_
       refine K.DW.l 1 rfl (by kernel_rfl) rfl (K.OW.q rfl (K.QR.k (v := .pointer (some ⟨r_7, 0, none⟩)) (by kernel_rfl)) ?_)
       refine ⟨.inl (hS.pick [2]), ?_⟩
       refine K.DW.l 2 rfl (by kernel_rfl) rfl (K.OW.gcall hS [1, 0] [2, 3, 4, 5, 6] [.pointer (some ⟨p_5, 0, none⟩), .pointer (some ⟨r_7, 0, none⟩)] (same7_ok _ _ _ _ _ _ _ _ _ _ x_42 x_45) ?_)
       clear hS; rintro _ _ w ⟨rfl, rfl⟩ hS
       replace hS : K.Sat w0 [l_41, l_44, h1, g1, gl_9, g_2, fr] w := hS
       refine ⟨.inl (hS.pick [2]), ?_⟩
       refine K.DW.l 3 rfl (by kernel_rfl) rfl (K.OW.q rfl (K.QR.k (v := .bool false) (by kernel_rfl)) ?_)
       refine ⟨.inl (hS.pick [2]), ?_⟩
       refine K.DW.l 4 rfl (by kernel_rfl) rfl (K.OW.q rfl (K.QR.k (v := .bool false) (by kernel_rfl)) ?_)
       refine ⟨.inl (hS.pick [2]), ?_⟩
       refine K.DW.q 5 (by kernel_rfl) rfl rfl (by kernel_rfl) (by kernel_rfl) (fun w hS => K.QR.k (v := .pointer (some ⟨p_19, 0, none⟩)) (by kernel_rfl)) (hS.pick [2]) ?_
       refine K.DW.q 7 (by kernel_rfl) rfl rfl (by kernel_rfl) (by kernel_rfl) (fun w hS => K.QR.k (v := .pointer (some ⟨r_23, 0, none⟩)) (by kernel_rfl)) (hS.pick [2]) ?_
       refine K.DW.q 8 (by kernel_rfl) rfl rfl (by kernel_rfl) (by kernel_rfl) (fun w hS => K.QR.k (v := .pointer (some ⟨r_23, 0, none⟩)) (by kernel_rfl)) (hS.pick [2]) ?_
       refine K.DW.q 9 (by kernel_rfl) rfl rfl (by kernel_rfl) (by kernel_rfl) (fun w hS => K.QR.k (v := .pointer (some ⟨r_23, 5, none⟩)) (by kernel_rfl)) (hS.pick [2]) ?_
       refine K.DW.q 10 (by kernel_rfl) rfl rfl (by kernel_rfl) (by kernel_rfl) (fun w hS => K.QR.ld1 (v := .int .i64 (lineOf S.pc)) rfl rfl (by kernel_rfl) ((hS.blk 0 rfl x_34).cell rfl)) (hS.pick [2]) ?_
       refine K.DW.q 11 (by kernel_rfl) rfl rfl (by kernel_rfl) (by kernel_rfl) (fun w hS => K.QR.nice (v := .bool (((lineOf S.pc) : Int) == (0 : Int))) (by kernel_rfl) (congrArg Value.bool (beq_iff_eq.2 (line_t h_46)))) (hS.pick [2]) ?_
       refine K.DW.l 6 rfl (by kernel_rfl) (by kernel_rfl) (K.OW.gcall hS [3] [0, 1, 2, 4, 5, 6] [.pointer (some ⟨p_19, 0, none⟩)] (popDone_ok _ _ _ S _ x_33) ?_)
       clear hS; rintro _ _ w ⟨rfl, (⟨rfl, h_47⟩ | ⟨rfl, h_48⟩)⟩ hS
       ·
        replace hS : K.Sat w0 [g1, l_41, l_44, h1, gl_9, g_2, fr] w := hS
        refine ⟨.inl (hS.pick [3]), ?_⟩
        refine K.DW.l 12 rfl (by kernel_rfl) (by kernel_rfl) (K.OW.q rfl (K.QR.k (v := .bool false) (by kernel_rfl)) ?_)
        refine ⟨.inl (hS.pick [3]), ?_⟩
        refine K.DW.l 13 rfl (by kernel_rfl) rfl (K.OW.q rfl (K.QR.k (v := .bool false) (by kernel_rfl)) ?_)
        refine ⟨.inl (hS.pick [3]), ?_⟩
        refine K.DW.l 14 rfl (by kernel_rfl) rfl (K.OW.q rfl (K.QR.k (v := .bool false) (by kernel_rfl)) ?_)
        refine ⟨.inl (hS.pick [3]), ?_⟩
        refine K.DW.q 15 (by kernel_rfl) rfl rfl (by kernel_rfl) (by kernel_rfl) (fun w hS => K.QR.k (v := .pointer (some ⟨p_19, 0, none⟩)) (by kernel_rfl)) (hS.pick [3]) ?_
        refine K.DW.q 17 (by kernel_rfl) rfl rfl (by kernel_rfl) (by kernel_rfl) (fun w hS => K.QR.k (v := .pointer (some ⟨r_23, 0, none⟩)) (by kernel_rfl)) (hS.pick [3]) ?_
        refine K.DW.q 18 (by kernel_rfl) rfl rfl (by kernel_rfl) (by kernel_rfl) (fun w hS => K.QR.k (v := .pointer (some ⟨r_23, 0, none⟩)) (by kernel_rfl)) (hS.pick [3]) ?_
        refine K.DW.q 19 (by kernel_rfl) rfl rfl (by kernel_rfl) (by kernel_rfl) (fun w hS => K.QR.k (v := .pointer (some ⟨r_23, 8, none⟩)) (by kernel_rfl)) (hS.pick [3]) ?_
        refine K.DW.q 20 (by kernel_rfl) rfl rfl (by kernel_rfl) (by kernel_rfl) (fun w hS => K.QR.ld1 (v := .int .i64 S.slot) rfl rfl (by kernel_rfl) ((hS.blk 0 rfl x_34).cell rfl)) (hS.pick [3]) ?_
        refine K.DW.l 16 rfl (by kernel_rfl) (by kernel_rfl) (K.OW.gcall hS [0] [1, 2, 3, 4, 5, 6] [.pointer (some ⟨p_19, 0, none⟩)] (popSlot_ok _ _ _ S _ x_33) ?_)
        clear hS; rintro _ _ w ⟨rfl, rfl⟩ hS
        replace hS : K.Sat w0 [g1, l_41, l_44, h1, gl_9, g_2, fr] w := hS
        refine ⟨.inl (hS.pick [3]), ?_⟩
        refine K.DW.l 21 rfl (by kernel_rfl) (by kernel_rfl) (K.OW.q rfl (K.QR.nice (v := .bool ((S.slot : Int) != (S.slot : Int))) (by kernel_rfl) (congrArg Value.bool (bne_eq_false_iff_eq.2 (rfl)))) ?_)
        refine ⟨.inl (hS.pick [3]), ?_⟩
        refine K.DW.l 22 rfl (by kernel_rfl) rfl (K.OW.q rfl (K.QR.k (v := .bool false) (by kernel_rfl)) ?_)
        refine ⟨.inl (hS.pick [3]), ?_⟩
        refine K.DW.done (by kernel_rfl) ?_
        refine K.t (K.f (K.k ?_))
        refine K.blk_normal ?_
        refine K.t (K.g (K.q [.int .i64 ((j : Nat) : Int)] ?_))
        refine K.a (K.QR.n64 ((((j : Nat) : Int) : Int) + (1 : Int)) ((j + 1 : Nat) : Int) (by kernel_rfl) (by omega)) ?_
        refine K.q [.int .i64 ((j + 1 : Nat) : Int)] (K.z (K.t ?_))
        refine ⟨_, ?_, j + 1, S, (act7 M ((lns c).toNat) (c.th.toNat) (ls.getD j pk0).act), g1, h1, l_41, l_44, rfl, ⟨by rfl, by rfl, by rfl, by rfl, by rfl, by rfl, by rfl, by rfl, by rfl, trivial⟩, (by omega), (by assumption), (by assumption), (by assumption), x_33, x_34, x_42, x_45, hS.pick [3, 0, 4, 1, 2, 5, 6]⟩
        omega
       ·
        exfalso; omega
      ·
       refine K.KW.gdrawn [2] hS (by kernel_rfl) ?_
       clear hS; intro w hS
       refine K.DW.q 0 (by kernel_rfl) rfl rfl (by kernel_rfl) rfl (fun w hS => K.QR.k (v := .pointer (some ⟨p_5, 0, none⟩)) (by kernel_rfl)) (hS.pick [2]) ?_
       refine K.DW.l 1 rfl (by kernel_rfl) rfl (K.OW.q rfl (K.QR.k (v := .pointer (some ⟨r_7, 0, none⟩)) (by kernel_rfl)) ?_)
       refine ⟨.inl (hS.pick [2]), ?_⟩
       refine K.DW.l 2 rfl (by kernel_rfl) rfl (K.OW.gcall hS [1, 0] [2, 3, 4, 5, 6] [.pointer (some ⟨p_5, 0, none⟩), .pointer (some ⟨r_7, 0, none⟩)] (same7_ok _ _ _ _ _ _ _ _ _ _ x_42 x_45) ?_)
       clear hS; rintro _ _ w ⟨rfl, rfl⟩ hS
       replace hS : K.Sat w0 [l_41, l_44, h1, g1, gl_9, g_2, fr] w := hS
       refine ⟨.inl (hS.pick [2]), ?_⟩
       refine K.DW.l 3 rfl (by kernel_rfl) rfl (K.OW.q rfl (K.QR.k (v := .bool false) (by kernel_rfl)) ?_)
       refine ⟨.inl (hS.pick [2]), ?_⟩
       refine K.DW.l 4 rfl (by kernel_rfl) rfl (K.OW.q rfl (K.QR.k (v := .bool false) (by kernel_rfl)) ?_)
       refine ⟨.inl (hS.pick [2]), ?_⟩
       refine K.DW.q 5 (by kernel_rfl) rfl rfl (by kernel_rfl) (by kernel_rfl) (fun w hS => K.QR.k (v := .pointer (some ⟨p_19, 0, none⟩)) (by kernel_rfl)) (hS.pick [2]) ?_
       refine K.DW.q 7 (by kernel_rfl) rfl rfl (by kernel_rfl) (by kernel_rfl) (fun w hS => K.QR.k (v := .pointer (some ⟨r_23, 0, none⟩)) (by kernel_rfl)) (hS.pick [2]) ?_
       refine K.DW.q 8 (by kernel_rfl) rfl rfl (by kernel_rfl) (by kernel_rfl) (fun w hS => K.QR.k (v := .pointer (some ⟨r_23, 0, none⟩)) (by kernel_rfl)) (hS.pick [2]) ?_
       refine K.DW.q 9 (by kernel_rfl) rfl rfl (by kernel_rfl) (by kernel_rfl) (fun w hS => K.QR.k (v := .pointer (some ⟨r_23, 5, none⟩)) (by kernel_rfl)) (hS.pick [2]) ?_
       refine K.DW.q 10 (by kernel_rfl) rfl rfl (by kernel_rfl) (by kernel_rfl) (fun w hS => K.QR.ld1 (v := .int .i64 (lineOf S.pc)) rfl rfl (by kernel_rfl) ((hS.blk 0 rfl x_34).cell rfl)) (hS.pick [2]) ?_
       refine K.DW.q 11 (by kernel_rfl) rfl rfl (by kernel_rfl) (by kernel_rfl) (fun w hS => K.QR.nice (v := .bool (((lineOf S.pc) : Int) == (0 : Int))) (by kernel_rfl) (congrArg Value.bool (beq_eq_false_iff_ne.2 (line_f h_46 (by assumption))))) (hS.pick [2]) ?_
       refine K.DW.l 6 rfl (by kernel_rfl) (by kernel_rfl) (K.OW.gcall hS [3] [0, 1, 2, 4, 5, 6] [.pointer (some ⟨p_19, 0, none⟩)] (popDone_ok _ _ _ S _ x_33) ?_)
       clear hS; rintro _ _ w ⟨rfl, (⟨rfl, h_49⟩ | ⟨rfl, h_50⟩)⟩ hS
       ·
        exfalso; omega
       ·
        replace hS : K.Sat w0 [g1, l_41, l_44, h1, gl_9, g_2, fr] w := hS
        refine ⟨.inl (hS.pick [3]), ?_⟩
        refine K.DW.l 12 rfl (by kernel_rfl) (by kernel_rfl) (K.OW.q rfl (K.QR.k (v := .bool false) (by kernel_rfl)) ?_)
        refine ⟨.inl (hS.pick [3]), ?_⟩
        refine K.DW.l 13 rfl (by kernel_rfl) rfl (K.OW.q rfl (K.QR.k (v := .bool false) (by kernel_rfl)) ?_)
        refine ⟨.inl (hS.pick [3]), ?_⟩
        refine K.DW.l 14 rfl (by kernel_rfl) rfl (K.OW.q rfl (K.QR.k (v := .bool false) (by kernel_rfl)) ?_)
        refine ⟨.inl (hS.pick [3]), ?_⟩
        refine K.DW.q 15 (by kernel_rfl) rfl rfl (by kernel_rfl) (by kernel_rfl) (fun w hS => K.QR.k (v := .pointer (some ⟨p_19, 0, none⟩)) (by kernel_rfl)) (hS.pick [3]) ?_
        refine K.DW.q 17 (by kernel_rfl) rfl rfl (by kernel_rfl) (by kernel_rfl) (fun w hS => K.QR.k (v := .pointer (some ⟨r_23, 0, none⟩)) (by kernel_rfl)) (hS.pick [3]) ?_
        refine K.DW.q 18 (by kernel_rfl) rfl rfl (by kernel_rfl) (by kernel_rfl) (fun w hS => K.QR.k (v := .pointer (some ⟨r_23, 0, none⟩)) (by kernel_rfl)) (hS.pick [3]) ?_
        refine K.DW.q 19 (by kernel_rfl) rfl rfl (by kernel_rfl) (by kernel_rfl) (fun w hS => K.QR.k (v := .pointer (some ⟨r_23, 8, none⟩)) (by kernel_rfl)) (hS.pick [3]) ?_
        refine K.DW.q 20 (by kernel_rfl) rfl rfl (by kernel_rfl) (by kernel_rfl) (fun w hS => K.QR.ld1 (v := .int .i64 S.slot) rfl rfl (by kernel_rfl) ((hS.blk 0 rfl x_34).cell rfl)) (hS.pick [3]) ?_
        refine K.DW.l 16 rfl (by kernel_rfl) (by kernel_rfl) (K.OW.gcall hS [0] [1, 2, 3, 4, 5, 6] [.pointer (some ⟨p_19, 0, none⟩)] (popSlot_ok _ _ _ S _ x_33) ?_)
        clear hS; rintro _ _ w ⟨rfl, rfl⟩ hS
        replace hS : K.Sat w0 [g1, l_41, l_44, h1, gl_9, g_2, fr] w := hS
        refine ⟨.inl (hS.pick [3]), ?_⟩
        refine K.DW.l 21 rfl (by kernel_rfl) (by kernel_rfl) (K.OW.q rfl (K.QR.nice (v := .bool ((S.slot : Int) != (S.slot : Int))) (by kernel_rfl) (congrArg Value.bool (bne_eq_false_iff_eq.2 (rfl)))) ?_)
        refine ⟨.inl (hS.pick [3]), ?_⟩
        refine K.DW.l 22 rfl (by kernel_rfl) rfl (K.OW.q rfl (K.QR.k (v := .bool false) (by kernel_rfl)) ?_)
        refine ⟨.inl (hS.pick [3]), ?_⟩
        refine K.DW.done (by kernel_rfl) ?_
        refine K.t (K.f (K.k ?_))
        refine K.blk_normal ?_
        refine K.t (K.g (K.q [.int .i64 ((j : Nat) : Int)] ?_))
        refine K.a (K.QR.n64 ((((j : Nat) : Int) : Int) + (1 : Int)) ((j + 1 : Nat) : Int) (by kernel_rfl) (by omega)) ?_
        refine K.q [.int .i64 ((j + 1 : Nat) : Int)] (K.z (K.t ?_))
        refine ⟨_, ?_, j + 1, S, (act7 M ((lns c).toNat) (c.th.toNat) (ls.getD j pk0).act), g1, h1, l_41, l_44, rfl, ⟨by rfl, by rfl, by rfl, by rfl, by rfl, by rfl, by rfl, by rfl, by rfl, trivial⟩, (by omega), (by assumption), (by assumption), (by assumption), x_33, x_34, x_42, x_45, hS.pick [3, 0, 4, 1, 2, 5, 6]⟩
        omega
     ·
      refine K.z (K.t (K.h (K.s (K.g (K.q [.pointer (some ⟨p_19, 0, none⟩), .pointer (some ⟨p_5, 0, none⟩)] ?_)))))
      refine K.l (K.OW.gcall hS [1, 2, 3] [0, 4, 5, 6] [.pointer (some ⟨p_19, 0, none⟩), .pointer (some ⟨p_5, 0, none⟩)] (popStep_ok _ _ _ _ _ _ _ c (by first | assumption | (unfold cfgOk; decide)) S _ _ _ _ x_33 hl_12 x_35 (by assumption) (by assumption)) ?_)
      clear hS; rintro _ _ w ⟨g_51, l_52, rfl, rfl, h_53, x_54⟩ hS
      replace hS : K.Sat w0 [g_51, gl_9, l_52, h1, m1, g_2, fr] w := hS
      obtain ⟨hS_55, hM_56⟩ := (popStep_good (by assumption) (by assumption) : (popStep c ((lns c).toNat) S M).1.good ∧ (popStep c ((lns c).toNat) S M).2.good)
      have hpc_57 : pcOk (popStep c ((lns c).toNat) S M).1.pc := popStep_pc (by assumption)
      refine K.q [.bool (decide ((popStep c ((lns c).toNat) S M).1.pc = 3))] (K.z (K.t (K.s (K.g (K.q [.pointer (some ⟨r_23, 0, none⟩), .pointer (some ⟨r_7, 0, none⟩)] ?_)))))
      refine K.l (K.OW.gcall hS [3, 4] [0, 1, 2, 5, 6] [.pointer (some ⟨r_23, 0, none⟩), .pointer (some ⟨r_7, 0, none⟩)] (rpopStep_ok _ _ _ _ _ _ c (by assumption) S M _ _ (by assumption) x_34 x_36 (by assumption) (by assumption)) ?_)
      clear hS; rintro _ _ w ⟨g_58, l_59, rfl, rfl, h_60, x_61⟩ hS
      replace hS : K.Sat w0 [g_58, l_59, g_51, gl_9, l_52, g_2, fr] w := hS
      refine K.z (K.t (K.s (K.g (K.q [.bool (decide ((popStep c ((lns c).toNat) S M).1.pc = 3))] ?_))))
      cases hb_62 : (decide ((popStep c ((lns c).toNat) S M).1.pc = 3))
      ·
       refine K.q [.pointer (some ⟨r_23, 0, none⟩), .pointer (some ⟨r_23, 0, none⟩), .pointer (some ⟨r_23, 5, none⟩)] ?_
       refine K.d (.int .i64 (lineOf (popStep c ((lns c).toNat) S M).1.pc)) ((hS.blk 0 rfl h_60).cell rfl) ?_
       refine K.xe ((lineOf (popStep c ((lns c).toNat) S M).1.pc) : Int) (0 : Int) (line_f (of_decide_eq_false hb_62) (by assumption)) ?_
       refine K.q [.bool false] (K.z (K.t (K.f (K.k (K.t (K.s ?_))))))
       have hdn_63 := of_decide_eq_false hb_62
       refine K.KW.gdrawn [0] hS (by kernel_rfl) ?_
       clear hS; intro w hS
       refine K.DW.q 0 (by kernel_rfl) rfl rfl (by kernel_rfl) rfl (fun w hS => K.QR.k (v := .pointer (some ⟨p_5, 0, none⟩)) (by kernel_rfl)) (hS.pick [0]) ?_
       refine K.DW.l 1 rfl (by kernel_rfl) rfl (K.OW.q rfl (K.QR.k (v := .pointer (some ⟨r_7, 0, none⟩)) (by kernel_rfl)) ?_)
       refine ⟨.inl (hS.pick [0]), ?_⟩
       refine K.DW.l 2 rfl (by kernel_rfl) rfl (K.OW.gcall hS [4, 1] [0, 2, 3, 5, 6] [.pointer (some ⟨p_5, 0, none⟩), .pointer (some ⟨r_7, 0, none⟩)] (same7_ok _ _ _ _ _ _ _ _ _ _ x_54 x_61) ?_)
       clear hS; rintro _ _ w ⟨rfl, rfl⟩ hS
       replace hS : K.Sat w0 [l_52, l_59, g_58, g_51, gl_9, g_2, fr] w := hS
       refine ⟨.inl (hS.pick [2]), ?_⟩
       refine K.DW.l 3 rfl (by kernel_rfl) rfl (K.OW.q rfl (K.QR.k (v := .bool false) (by kernel_rfl)) ?_)
       refine ⟨.inl (hS.pick [2]), ?_⟩
       refine K.DW.l 4 rfl (by kernel_rfl) rfl (K.OW.q rfl (K.QR.k (v := .bool false) (by kernel_rfl)) ?_)
       refine ⟨.inl (hS.pick [2]), ?_⟩
       refine K.DW.q 5 (by kernel_rfl) rfl rfl (by kernel_rfl) (by kernel_rfl) (fun w hS => K.QR.k (v := .pointer (some ⟨p_19, 0, none⟩)) (by kernel_rfl)) (hS.pick [2]) ?_
       refine K.DW.q 7 (by kernel_rfl) rfl rfl (by kernel_rfl) (by kernel_rfl) (fun w hS => K.QR.k (v := .pointer (some ⟨r_23, 0, none⟩)) (by kernel_rfl)) (hS.pick [2]) ?_
       refine K.DW.q 8 (by kernel_rfl) rfl rfl (by kernel_rfl) (by kernel_rfl) (fun w hS => K.QR.k (v := .pointer (some ⟨r_23, 0, none⟩)) (by kernel_rfl)) (hS.pick [2]) ?_
       refine K.DW.q 9 (by kernel_rfl) rfl rfl (by kernel_rfl) (by kernel_rfl) (fun w hS => K.QR.k (v := .pointer (some ⟨r_23, 5, none⟩)) (by kernel_rfl)) (hS.pick [2]) ?_
       refine K.DW.q 10 (by kernel_rfl) rfl rfl (by kernel_rfl) (by kernel_rfl) (fun w hS => K.QR.ld1 (v := .int .i64 (lineOf (popStep c ((lns c).toNat) S M).1.pc)) rfl rfl (by kernel_rfl) ((hS.blk 0 rfl h_60).cell rfl)) (hS.pick [2]) ?_
       refine K.DW.q 11 (by kernel_rfl) rfl rfl (by kernel_rfl) (by kernel_rfl) (fun w hS => K.QR.nice (v := .bool (((lineOf (popStep c ((lns c).toNat) S M).1.pc) : Int) == (0 : Int))) (by kernel_rfl) (congrArg Value.bool (beq_eq_false_iff_ne.2 (line_f hdn_63 (by assumption))))) (hS.pick [2]) ?_
       refine K.DW.l 6 rfl (by kernel_rfl) (by kernel_rfl) (K.OW.gcall hS [3] [0, 1, 2, 4, 5, 6] [.pointer (some ⟨p_19, 0, none⟩)] (popDone_ok _ _ _ (popStep c ((lns c).toNat) S M).1 _ h_53) ?_)
       clear hS; rintro _ _ w ⟨rfl, (⟨rfl, h_64⟩ | ⟨rfl, h_65⟩)⟩ hS
       ·
        exfalso; omega
       ·
        replace hS : K.Sat w0 [g_51, l_52, l_59, g_58, gl_9, g_2, fr] w := hS
        refine ⟨.inl (hS.pick [3]), ?_⟩
        refine K.DW.l 12 rfl (by kernel_rfl) (by kernel_rfl) (K.OW.q rfl (K.QR.k (v := .bool false) (by kernel_rfl)) ?_)
        refine ⟨.inl (hS.pick [3]), ?_⟩
        refine K.DW.l 13 rfl (by kernel_rfl) rfl (K.OW.q rfl (K.QR.k (v := .bool false) (by kernel_rfl)) ?_)
        refine ⟨.inl (hS.pick [3]), ?_⟩
        refine K.DW.l 14 rfl (by kernel_rfl) rfl (K.OW.q rfl (K.QR.k (v := .bool false) (by kernel_rfl)) ?_)
        refine ⟨.inl (hS.pick [3]), ?_⟩
        refine K.DW.q 15 (by kernel_rfl) rfl rfl (by kernel_rfl) (by kernel_rfl) (fun w hS => K.QR.k (v := .pointer (some ⟨p_19, 0, none⟩)) (by kernel_rfl)) (hS.pick [3]) ?_
        refine K.DW.q 17 (by kernel_rfl) rfl rfl (by kernel_rfl) (by kernel_rfl) (fun w hS => K.QR.k (v := .pointer (some ⟨r_23, 0, none⟩)) (by kernel_rfl)) (hS.pick [3]) ?_
        refine K.DW.q 18 (by kernel_rfl) rfl rfl (by kernel_rfl) (by kernel_rfl) (fun w hS => K.QR.k (v := .pointer (some ⟨r_23, 0, none⟩)) (by kernel_rfl)) (hS.pick [3]) ?_
        refine K.DW.q 19 (by kernel_rfl) rfl rfl (by kernel_rfl) (by kernel_rfl) (fun w hS => K.QR.k (v := .pointer (some ⟨r_23, 8, none⟩)) (by kernel_rfl)) (hS.pick [3]) ?_
        refine K.DW.q 20 (by kernel_rfl) rfl rfl (by kernel_rfl) (by kernel_rfl) (fun w hS => K.QR.ld1 (v := .int .i64 ((popStep c ((lns c).toNat) S M).1.slot)) rfl rfl (by kernel_rfl) ((hS.blk 0 rfl h_60).cell rfl)) (hS.pick [3]) ?_
        refine K.DW.l 16 rfl (by kernel_rfl) (by kernel_rfl) (K.OW.gcall hS [0] [1, 2, 3, 4, 5, 6] [.pointer (some ⟨p_19, 0, none⟩)] (popSlot_ok _ _ _ (popStep c ((lns c).toNat) S M).1 _ h_53) ?_)
        clear hS; rintro _ _ w ⟨rfl, rfl⟩ hS
        replace hS : K.Sat w0 [g_51, l_52, l_59, g_58, gl_9, g_2, fr] w := hS
        refine ⟨.inl (hS.pick [3]), ?_⟩
        refine K.DW.l 21 rfl (by kernel_rfl) (by kernel_rfl) (K.OW.q rfl (K.QR.nice (v := .bool (((popStep c ((lns c).toNat) S M).1.slot : Int) != ((popStep c ((lns c).toNat) S M).1.slot : Int))) (by kernel_rfl) (congrArg Value.bool (bne_eq_false_iff_eq.2 (rfl)))) ?_)
        refine ⟨.inl (hS.pick [3]), ?_⟩
        refine K.DW.l 22 rfl (by kernel_rfl) rfl (K.OW.q rfl (K.QR.k (v := .bool false) (by kernel_rfl)) ?_)
        refine ⟨.inl (hS.pick [3]), ?_⟩
        refine K.DW.done (by kernel_rfl) ?_
        refine K.t (K.f (K.k ?_))
        refine K.blk_normal ?_
        refine K.t (K.g (K.q [.int .i64 ((j : Nat) : Int)] ?_))
        refine K.a (K.QR.n64 ((((j : Nat) : Int) : Int) + (1 : Int)) ((j + 1 : Nat) : Int) (by kernel_rfl) (by omega)) ?_
        refine K.q [.int .i64 ((j + 1 : Nat) : Int)] (K.z (K.t ?_))
        refine ⟨_, ?_, j + 1, (popStep c ((lns c).toNat) S M).1, ((popStep c ((lns c).toNat) S M).2), g_51, g_58, l_52, l_59, rfl, ⟨by rfl, by rfl, by rfl, by rfl, by rfl, by rfl, by rfl, by rfl, by rfl, trivial⟩, (by omega), (by assumption), (by assumption), (by assumption), h_53, h_60, x_54, x_61, hS.pick [3, 0, 4, 1, 2, 5, 6]⟩
        omega
      ·
       refine K.q [.pointer (some ⟨r_23, 0, none⟩), .pointer (some ⟨r_23, 0, none⟩), .pointer (some ⟨r_23, 5, none⟩)] ?_
       refine K.d (.int .i64 (lineOf (popStep c ((lns c).toNat) S M).1.pc)) ((hS.blk 0 rfl h_60).cell rfl) ?_
       refine K.ye ((lineOf (popStep c ((lns c).toNat) S M).1.pc) : Int) (0 : Int) (line_t (of_decide_eq_true hb_62)) ?_
       refine K.q [.bool false] (K.z (K.t (K.f (K.k (K.t (K.s ?_))))))
       have hdn_66 := of_decide_eq_true hb_62
       refine K.KW.gdrawn [0] hS (by kernel_rfl) ?_
       clear hS; intro w hS
       refine K.DW.q 0 (by kernel_rfl) rfl rfl (by kernel_rfl) rfl (fun w hS => K.QR.k (v := .pointer (some ⟨p_5, 0, none⟩)) (by kernel_rfl)) (hS.pick [0]) ?_
       refine K.DW.l 1 rfl (by kernel_rfl) rfl (K.OW.q rfl (K.QR.k (v := .pointer (some ⟨r_7, 0, none⟩)) (by kernel_rfl)) ?_)
       refine ⟨.inl (hS.pick [0]), ?_⟩
       refine K.DW.l 2 rfl (by kernel_rfl) rfl (K.OW.gcall hS [4, 1] [0, 2, 3, 5, 6] [.pointer (some ⟨p_5, 0, none⟩), .pointer (some ⟨r_7, 0, none⟩)] (same7_ok _ _ _ _ _ _ _ _ _ _ x_54 x_61) ?_)
       clear hS; rintro _ _ w ⟨rfl, rfl⟩ hS
       replace hS : K.Sat w0 [l_52, l_59, g_58, g_51, gl_9, g_2, fr] w := hS
       refine ⟨.inl (hS.pick [2]), ?_⟩
       refine K.DW.l 3 rfl (by kernel_rfl) rfl (K.OW.q rfl (K.QR.k (v := .bool false) (by kernel_rfl)) ?_)
       refine ⟨.inl (hS.pick [2]), ?_⟩
       refine K.DW.l 4 rfl (by kernel_rfl) rfl (K.OW.q rfl (K.QR.k (v := .bool false) (by kernel_rfl)) ?_)
       refine ⟨.inl (hS.pick [2]), ?_⟩
       refine K.DW.q 5 (by kernel_rfl) rfl rfl (by kernel_rfl) (by kernel_rfl) (fun w hS => K.QR.k (v := .pointer (some ⟨p_19, 0, none⟩)) (by kernel_rfl)) (hS.pick [2]) ?_
       refine K.DW.q 7 (by kernel_rfl) rfl rfl (by kernel_rfl) (by kernel_rfl) (fun w hS => K.QR.k (v := .pointer (some ⟨r_23, 0, none⟩)) (by kernel_rfl)) (hS.pick [2]) ?_
       refine K.DW.q 8 (by kernel_rfl) rfl rfl (by kernel_rfl) (by kernel_rfl) (fun w hS => K.QR.k (v := .pointer (some ⟨r_23, 0, none⟩)) (by kernel_rfl)) (hS.pick [2]) ?_
       refine K.DW.q 9 (by kernel_rfl) rfl rfl (by kernel_rfl) (by kernel_rfl) (fun w hS => K.QR.k (v := .pointer (some ⟨r_23, 5, none⟩)) (by kernel_rfl)) (hS.pick [2]) ?_
       refine K.DW.q 10 (by kernel_rfl) rfl rfl (by kernel_rfl) (by kernel_rfl) (fun w hS => K.QR.ld1 (v := .int .i64 (lineOf (popStep c ((lns c).toNat) S M).1.pc)) rfl rfl (by kernel_rfl) ((hS.blk 0 rfl h_60).cell rfl)) (hS.pick [2]) ?_
       refine K.DW.q 11 (by kernel_rfl) rfl rfl (by kernel_rfl) (by kernel_rfl) (fun w hS => K.QR.nice (v := .bool (((lineOf (popStep c ((lns c).toNat) S M).1.pc) : Int) == (0 : Int))) (by kernel_rfl) (congrArg Value.bool (beq_iff_eq.2 (line_t hdn_66)))) (hS.pick [2]) ?_
       refine K.DW.l 6 rfl (by kernel_rfl) (by kernel_rfl) (K.OW.gcall hS [3] [0, 1, 2, 4, 5, 6] [.pointer (some ⟨p_19, 0, none⟩)] (popDone_ok _ _ _ (popStep c ((lns c).toNat) S M).1 _ h_53) ?_)
       clear hS; rintro _ _ w ⟨rfl, (⟨rfl, h_67⟩ | ⟨rfl, h_68⟩)⟩ hS
       ·
        replace hS : K.Sat w0 [g_51, l_52, l_59, g_58, gl_9, g_2, fr] w := hS
        refine ⟨.inl (hS.pick [3]), ?_⟩
        refine K.DW.l 12 rfl (by kernel_rfl) (by kernel_rfl) (K.OW.q rfl (K.QR.k (v := .bool false) (by kernel_rfl)) ?_)
        refine ⟨.inl (hS.pick [3]), ?_⟩
        refine K.DW.l 13 rfl (by kernel_rfl) rfl (K.OW.q rfl (K.QR.k (v := .bool false) (by kernel_rfl)) ?_)
        refine ⟨.inl (hS.pick [3]), ?_⟩
        refine K.DW.l 14 rfl (by kernel_rfl) rfl (K.OW.q rfl (K.QR.k (v := .bool false) (by kernel_rfl)) ?_)
        refine ⟨.inl (hS.pick [3]), ?_⟩
        refine K.DW.q 15 (by kernel_rfl) rfl rfl (by kernel_rfl) (by kernel_rfl) (fun w hS => K.QR.k (v := .pointer (some ⟨p_19, 0, none⟩)) (by kernel_rfl)) (hS.pick [3]) ?_
        refine K.DW.q 17 (by kernel_rfl) rfl rfl (by kernel_rfl) (by kernel_rfl) (fun w hS => K.QR.k (v := .pointer (some ⟨r_23, 0, none⟩)) (by kernel_rfl)) (hS.pick [3]) ?_
        refine K.DW.q 18 (by kernel_rfl) rfl rfl (by kernel_rfl) (by kernel_rfl) (fun w hS => K.QR.k (v := .pointer (some ⟨r_23, 0, none⟩)) (by kernel_rfl)) (hS.pick [3]) ?_
        refine K.DW.q 19 (by kernel_rfl) rfl rfl (by kernel_rfl) (by kernel_rfl) (fun w hS => K.QR.k (v := .pointer (some ⟨r_23, 8, none⟩)) (by kernel_rfl)) (hS.pick [3]) ?_
        refine K.DW.q 20 (by kernel_rfl) rfl rfl (by kernel_rfl) (by kernel_rfl) (fun w hS => K.QR.ld1 (v := .int .i64 ((popStep c ((lns c).toNat) S M).1.slot)) rfl rfl (by kernel_rfl) ((hS.blk 0 rfl h_60).cell rfl)) (hS.pick [3]) ?_
        refine K.DW.l 16 rfl (by kernel_rfl) (by kernel_rfl) (K.OW.gcall hS [0] [1, 2, 3, 4, 5, 6] [.pointer (some ⟨p_19, 0, none⟩)] (popSlot_ok _ _ _ (popStep c ((lns c).toNat) S M).1 _ h_53) ?_)
        clear hS; rintro _ _ w ⟨rfl, rfl⟩ hS
        replace hS : K.Sat w0 [g_51, l_52, l_59, g_58, gl_9, g_2, fr] w := hS
        refine ⟨.inl (hS.pick [3]), ?_⟩
        refine K.DW.l 21 rfl (by kernel_rfl) (by kernel_rfl) (K.OW.q rfl (K.QR.nice (v := .bool (((popStep c ((lns c).toNat) S M).1.slot : Int) != ((popStep c ((lns c).toNat) S M).1.slot : Int))) (by kernel_rfl) (congrArg Value.bool (bne_eq_false_iff_eq.2 (rfl)))) ?_)
        refine ⟨.inl (hS.pick [3]), ?_⟩
        refine K.DW.l 22 rfl (by kernel_rfl) rfl (K.OW.q rfl (K.QR.k (v := .bool false) (by kernel_rfl)) ?_)
        refine ⟨.inl (hS.pick [3]), ?_⟩
        refine K.DW.done (by kernel_rfl) ?_
        refine K.t (K.f (K.k ?_))
        refine K.blk_normal ?_
        refine K.t (K.g (K.q [.int .i64 ((j : Nat) : Int)] ?_))
        refine K.a (K.QR.n64 ((((j : Nat) : Int) : Int) + (1 : Int)) ((j + 1 : Nat) : Int) (by kernel_rfl) (by omega)) ?_
        refine K.q [.int .i64 ((j + 1 : Nat) : Int)] (K.z (K.t ?_))
        refine ⟨_, ?_, j + 1, (popStep c ((lns c).toNat) S M).1, ((popStep c ((lns c).toNat) S M).2), g_51, g_58, l_52, l_59, rfl, ⟨by rfl, by rfl, by rfl, by rfl, by rfl, by rfl, by rfl, by rfl, by rfl, trivial⟩, (by omega), (by assumption), (by assumption), (by assumption), h_53, h_60, x_54, x_61, hS.pick [3, 0, 4, 1, 2, 5, 6]⟩
        omega
       ·
        exfalso; omega
    ·
     refine K.x ((((j : Nat) : Int) : Int) < (((ls.length : Nat) : Int) : Int)) h_37 ?_
     refine K.z (K.t (K.f ?_))
     refine K.KW.exit ?_
     refine K.thn_exit ?_
     refine K.thn_exit ?_
     refine K.blk_hit ?_
     refine K.t (K.s (K.g ?_))
     refine K.l (K.OW.gcall hS [] [0, 1, 2, 3, 4, 5, 6] [] (awake09_ok _) ?_)
     clear hS; rintro _ _ w ⟨rfl, rfl⟩ hS
     replace hS : K.Sat w0 [h1, g1, gl_9, l1, m1, g_2, fr] w := hS
     refine K.q [.bool true] (K.z (K.t (K.r ?_)))
     refine ⟨.inr rfl, rfl, (.bool true), K.res1 rfl rfl, [], ?_, hS.pick [6]⟩
     exact rfl
 ·
  replace hS : K.Sat w0 [g_2, fr] w := hS.of (by simp [K.pick, K.nth])
  refine K.q [.tuple #[.pointer none, .pointer none, .pointer none, .bool false], .pointer none, .pointer none, .pointer none, .bool false, .pointer none, .pointer none, .pointer none, .bool false] (K.z (K.t (K.s (K.s (K.g (K.q [.bool false, .bool true, .bool true] ?_))))))
  refine K.RW.skip rfl (by kernel_rfl) ?_
  refine K.RW.skip rfl (by kernel_rfl) ?_
  refine K.RW.skip rfl (by kernel_rfl) ?_
  refine K.q [.bool true] (K.z (K.t (K.h (K.s (K.g ?_)))))
  refine K.l (K.OW.gcall hS [] [0, 1] [] (awake09_ok _) ?_)
  clear hS; rintro _ _ w ⟨rfl, rfl⟩ hS
  replace hS : K.Sat w0 [g_2, fr] w := hS
  refine K.q [.bool true] (K.z (K.t (K.r (K.u ?_))))
  refine ⟨.inr rfl, rfl, (.bool true), K.res1 rfl rfl, [], ?_, hS.pick [1]⟩
  exact rfl

end Go.Proofs.YtajkickofkeemaaGreat
