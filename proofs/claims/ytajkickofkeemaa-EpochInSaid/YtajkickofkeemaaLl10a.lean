/- The statement EpochIn. -/
import Derived.Test.YtajkickofkeemaaLl10w
import Derived.Test.YtajkickofkeemaaLl9a
import Derived.Test.YtajkickofkeemaaKn
namespace Go.Proofs.Ytajkickofkeemaa
open Go.RowKit
set_option linter.unusedVariables false
attribute [local irreducible] K.KW K.RW K.DW K.OW K.QR K.KC

set_option maxHeartbeats 1000000 in
set_option maxRecDepth 100000 in
theorem l10in_ok (w0 : World) (c : Cfg) (pa : Option Addr) (cp : Nat) (ps : List PutM) (hg : ∀ j, j < ps.length → isInt (ps.getD j pu0).at_ ∧ isW (ps.getD j pu0).w) (hxp : K.RowE w0 pa ps.length 2 (fun i => cPut (ps.getD i pu0))) (tt : Int) (htt : isInt tt) :
  K.GC Try.prog w0 5 #[.agg #[.int .i64 c.th, .int .i64 c.sl, .int .i64 c.lo, .int .i64 c.bu, .slice pa ps.length cp], .int .i64 tt] [] (fun v post => v = .bool true) := by
 refine K.GC.mk (n := 64) Try.func5 rfl rfl [.agg #[.int .i64 c.th, .int .i64 c.sl, .int .i64 c.lo, .int .i64 c.bu, .slice pa ps.length cp], .int .i64 tt] rfl rfl ?_
 intro fr w hS
 replace hS : K.Sat w0 [fr] w := hS
 refine K.s (K.g ?_)
 refine K.l (K.OW.gnew 37 [.int .i64 c.th, .int .i64 c.sl, .int .i64 c.lo, .int .i64 c.bu, .slice pa ps.length cp] hS ?_)
 clear hS; intro w r_1 g_2 hg_3 hS
 refine K.q [.bool false] (K.z (K.t (K.s (K.g ?_))))
 refine K.a (K.QR.ldN [.int .i64 c.th, .int .i64 c.sl, .int .i64 c.lo, .int .i64 c.bu, .slice pa ps.length cp] rfl rfl (by kernel_rfl) (by kernel_rfl) (K.cells (K.cl ((hS.blk 0 rfl hg_3).cell rfl) (K.cl ((hS.blk 0 rfl hg_3).cell rfl) (K.cl ((hS.blk 0 rfl hg_3).cell rfl) (K.cl ((hS.blk 0 rfl hg_3).cell rfl) (K.cl ((hS.blk 0 rfl hg_3).cell rfl) K.cl0))))))) ?_
 refine K.l (K.OW.gcall hS [52] [0, 1] [.agg #[.int .i64 c.th, .int .i64 c.sl, .int .i64 c.lo, .int .i64 c.bu, .slice pa ps.length cp]] (lay_ok _ c _ _ ps (fun j hj => (hg j hj).1) _ (fun w h => hxp.no h.chg)) ?_)
 clear hS; rintro _ _ w (⟨b_4, p_5, q_6, r_7, u_8, _, _, gl_9, l_10, m_11, rfl, rfl, hl_12, x_13, y_14, rfl, rfl, hf_15, hp_16⟩ | ⟨rfl, rfl, h_17⟩) hS
 ·
  replace hS : K.Sat w0 [gl_9, l_10, m_11, g_2, fr] w := hS.of (by simp [K.pick, K.nth])
  have hc : cfgOk c := hf_15.1
  obtain ⟨hfa, hfb⟩ : (((1 ≤ c.th ∧ c.th ≤ 64) ∧ (1 ≤ c.sl ∧ c.sl ≤ 65536) ∧ (1 ≤ c.lo ∧ c.lo ≤ 64) ∧ (1 ≤ c.bu ∧ c.bu ≤ 64)) ∧ (c.th ≤ 6 ∧ c.sl ≤ 30 ∧ c.lo ≤ 8 ∧ c.bu ≤ 8)) := (by have h := hf_15; unfold fewC cfgOk at h; exact h)
  have hM : (groundM ((lns c).toNat) (c.th.toNat) (2 + c.th + c.sl).toNat ps).good := ground_good (fun j hj => (hg j hj).2)
  have hP : (((groundM ((lns c).toNat) (c.th.toNat) (2 + c.th + c.sl).toNat ps).pass.length : Nat) : Int) = 2 + c.th + c.sl := by rw [ground_pass]; omega
  refine K.q [.tuple #[.pointer (some ⟨b_4, 0, none⟩), .pointer (some ⟨p_5, 0, none⟩), .pointer (some ⟨r_7, 0, none⟩), .bool true], .pointer (some ⟨b_4, 0, none⟩), .pointer (some ⟨p_5, 0, none⟩), .pointer (some ⟨r_7, 0, none⟩), .bool true, .pointer (some ⟨b_4, 0, none⟩), .pointer (some ⟨p_5, 0, none⟩), .pointer (some ⟨r_7, 0, none⟩), .bool true] (K.z (K.t (K.s (K.s (K.g (K.q [.bool true, .bool false] (K.z (K.t (K.f (K.k (K.t (K.s (K.g (K.q [.pointer (some ⟨b_4, 0, none⟩), .pointer (some ⟨p_5, 0, none⟩), .int .i64 tt] ?_))))))))))))))
  refine K.l (K.OW.gcall hS [0, 1] [2, 3, 4] [.pointer (some ⟨b_4, 0, none⟩), .pointer (some ⟨p_5, 0, none⟩), .int .i64 tt] (epIn_ok _ _ _ _ _ _ c (by first | assumption | (unfold cfgOk; decide)) (groundM ((lns c).toNat) (c.th.toNat) (2 + c.th + c.sl).toNat ps) _ _ hl_12 x_13 (by assumption) tt (by omega)) ?_)
  clear hS; rintro _ _ w ⟨rfl, (⟨y_18, rfl, h_19, hz_20⟩ | ⟨rfl, h_21⟩ | ⟨rfl, h_22⟩)⟩ hS
  ·
   replace hS : K.Sat w0 [gl_9, l_10, m_11, g_2, fr] w := hS
   have hw_23 : isW y_18 := peek_W (by assumption) h_19
   unfold isW at hw_23
   refine K.q [.tuple #[.int .u64 (y_18 - 1), .bool true], .int .u64 (y_18 - 1), .bool true, .int .u64 (y_18 - 1), .bool true] (K.z (K.t (K.s (K.g (K.q [.pointer (some ⟨r_7, 0, none⟩), .pointer (some ⟨r_1, 0, none⟩)] ?_)))))
   refine K.a (K.QR.ldN [.int .i64 c.th, .int .i64 c.sl, .int .i64 c.lo, .int .i64 c.bu] rfl rfl (by kernel_rfl) (by kernel_rfl) (K.cells (K.cl ((hS.blk 3 rfl hg_3).cell rfl) (K.cl ((hS.blk 3 rfl hg_3).cell rfl) (K.cl ((hS.blk 3 rfl hg_3).cell rfl) (K.cl ((hS.blk 3 rfl hg_3).cell rfl) K.cl0)))))) ?_
   refine K.q [.int .i64 tt] ?_
   refine K.l (K.OW.gcall hS [] [0, 1, 2, 3, 4] [.agg #[.int .i64 c.th, .int .i64 c.sl, .int .i64 c.lo, .int .i64 c.bu], .int .i64 tt] (rannounce_ok _ c (by first | assumption | (unfold cfgOk; decide)) tt) ?_)
   clear hS; rintro _ _ w ⟨rfl, rfl⟩ hS
   replace hS : K.Sat w0 [gl_9, l_10, m_11, g_2, fr] w := hS
   refine K.l (K.OW.gcall hS [2] [0, 1, 3, 4] [.pointer (some ⟨r_7, 0, none⟩), .int .i64 (annS c tt)] (rpkS_ok _ _ _ _ _ _ _ y_14 (annS c tt) (by first | omega | assumption | exact aft_int (by assumption) _ | exact ann_int (by assumption) _ (by first | omega | assumption)) y_18 (h_19)) ?_)
   clear hS; rintro _ _ w ⟨rfl, rfl⟩ hS
   replace hS : K.Sat w0 [m_11, gl_9, l_10, g_2, fr] w := hS
   refine K.q [.tuple #[.int .u64 y_18, .bool true], .int .u64 y_18, .bool true, .int .u64 y_18, .bool true] (K.z (K.t (K.s (K.s (K.g (K.q [.bool true, .bool false, .bool false, .int .u64 y_18] ?_))))))
   by_cases h_24 : (y_18 : Int) = (0 : Int)
   ·
    refine K.ye (y_18 : Int) (0 : Int) h_24 ?_
    refine K.q [.bool true] (K.z (K.t (K.h (K.s ?_))))
    exfalso
    omega
   ·
    refine K.xe (y_18 : Int) (0 : Int) h_24 ?_
    refine K.q [.bool false] (K.z (K.t (K.f (K.k (K.t (K.s (K.g ?_)))))))
    refine K.l (K.OW.gcall hS [] [0, 1, 2, 3, 4] [] (awake10_ok _) ?_)
    clear hS; rintro _ _ w ⟨rfl, rfl⟩ hS
    replace hS : K.Sat w0 [m_11, gl_9, l_10, g_2, fr] w := hS
    refine K.q [.bool true, .bool true, .bool true, .bool true, .int .u64 (y_18 - 1), .int .u64 y_18] ?_
    refine K.a (K.QR.nu64 ((y_18 : Int) - (1 : Int)) ((y_18 : Int) - (1 : Int)) (by kernel_rfl) (by omega)) ?_
    refine K.ye ((y_18 - 1) : Int) ((y_18 : Int) - (1 : Int) : Int) (rfl) ?_
    refine K.q [.bool true, .bool true] (K.z (K.t (K.r ?_)))
    refine ⟨.inr rfl, rfl, (.bool true), K.res1 rfl rfl, [], ?_, hS.pick [4]⟩
    exact rfl
  ·
   replace hS : K.Sat w0 [gl_9, l_10, m_11, g_2, fr] w := hS
   refine K.q [.tuple #[.int .u64 0, .bool false], .int .u64 0, .bool false, .int .u64 0, .bool false] (K.z (K.t (K.s (K.g (K.q [.pointer (some ⟨r_7, 0, none⟩), .pointer (some ⟨r_1, 0, none⟩)] ?_)))))
   refine K.a (K.QR.ldN [.int .i64 c.th, .int .i64 c.sl, .int .i64 c.lo, .int .i64 c.bu] rfl rfl (by kernel_rfl) (by kernel_rfl) (K.cells (K.cl ((hS.blk 3 rfl hg_3).cell rfl) (K.cl ((hS.blk 3 rfl hg_3).cell rfl) (K.cl ((hS.blk 3 rfl hg_3).cell rfl) (K.cl ((hS.blk 3 rfl hg_3).cell rfl) K.cl0)))))) ?_
   refine K.q [.int .i64 tt] ?_
   refine K.l (K.OW.gcall hS [] [0, 1, 2, 3, 4] [.agg #[.int .i64 c.th, .int .i64 c.sl, .int .i64 c.lo, .int .i64 c.bu], .int .i64 tt] (rannounce_ok _ c (by first | assumption | (unfold cfgOk; decide)) tt) ?_)
   clear hS; rintro _ _ w ⟨rfl, rfl⟩ hS
   replace hS : K.Sat w0 [gl_9, l_10, m_11, g_2, fr] w := hS
   refine K.l (K.OW.gcall hS [2] [0, 1, 3, 4] [.pointer (some ⟨r_7, 0, none⟩), .int .i64 (annS c tt)] (rpkS_ok _ _ _ _ _ _ _ y_14 (annS c tt) (by first | omega | assumption | exact aft_int (by assumption) _ | exact ann_int (by assumption) _ (by first | omega | assumption)) 0 (h_21)) ?_)
   clear hS; rintro _ _ w ⟨rfl, rfl⟩ hS
   replace hS : K.Sat w0 [m_11, gl_9, l_10, g_2, fr] w := hS
   refine K.q [.tuple #[.int .u64 0, .bool true], .int .u64 0, .bool true, .int .u64 0, .bool true] (K.z (K.t (K.s (K.s (K.g (K.q [.bool true, .bool false, .bool false, .int .u64 0] ?_))))))
   refine K.ye (0 : Int) (0 : Int) rfl ?_
   refine K.q [.bool true] (K.z (K.t (K.h (K.s (K.g ?_)))))
   refine K.l (K.OW.gcall hS [] [0, 1, 2, 3, 4] [] (awake10_ok _) ?_)
   clear hS; rintro _ _ w ⟨rfl, rfl⟩ hS
   replace hS : K.Sat w0 [m_11, gl_9, l_10, g_2, fr] w := hS
   refine K.q [.bool true, .int .u64 0, .bool true, .bool true, .bool true, .bool false, .bool true, .bool true, .bool true] (K.z (K.t (K.r (K.u ?_))))
   refine ⟨.inr rfl, rfl, (.bool true), K.res1 rfl rfl, [], ?_, hS.pick [4]⟩
   exact rfl
  ·
   replace hS : K.Sat w0 [gl_9, l_10, m_11, g_2, fr] w := hS
   refine K.q [.tuple #[.int .u64 0, .bool false], .int .u64 0, .bool false, .int .u64 0, .bool false] (K.z (K.t (K.s (K.g (K.q [.pointer (some ⟨r_7, 0, none⟩), .pointer (some ⟨r_1, 0, none⟩)] ?_)))))
   refine K.a (K.QR.ldN [.int .i64 c.th, .int .i64 c.sl, .int .i64 c.lo, .int .i64 c.bu] rfl rfl (by kernel_rfl) (by kernel_rfl) (K.cells (K.cl ((hS.blk 3 rfl hg_3).cell rfl) (K.cl ((hS.blk 3 rfl hg_3).cell rfl) (K.cl ((hS.blk 3 rfl hg_3).cell rfl) (K.cl ((hS.blk 3 rfl hg_3).cell rfl) K.cl0)))))) ?_
   refine K.q [.int .i64 tt] ?_
   refine K.l (K.OW.gcall hS [] [0, 1, 2, 3, 4] [.agg #[.int .i64 c.th, .int .i64 c.sl, .int .i64 c.lo, .int .i64 c.bu], .int .i64 tt] (rannounce_ok _ c (by first | assumption | (unfold cfgOk; decide)) tt) ?_)
   clear hS; rintro _ _ w ⟨rfl, rfl⟩ hS
   replace hS : K.Sat w0 [gl_9, l_10, m_11, g_2, fr] w := hS
   refine K.l (K.OW.gcall hS [2] [0, 1, 3, 4] [.pointer (some ⟨r_7, 0, none⟩), .int .i64 (annS c tt)] (rpkN_ok _ _ _ _ _ _ _ y_14 (annS c tt) (by first | omega | assumption | exact aft_int (by assumption) _ | exact ann_int (by assumption) _ (by first | omega | assumption)) (h_22)) ?_)
   clear hS; rintro _ _ w ⟨rfl, rfl⟩ hS
   replace hS : K.Sat w0 [m_11, gl_9, l_10, g_2, fr] w := hS
   refine K.q [.tuple #[.int .u64 0, .bool false], .int .u64 0, .bool false, .int .u64 0, .bool false] (K.z (K.t (K.s (K.s (K.g (K.q [.bool false, .bool true, .bool true] ?_))))))
   refine K.RW.skip rfl (by kernel_rfl) ?_
   refine K.RW.skip rfl (by kernel_rfl) ?_
   refine K.q [.bool true] (K.z (K.t (K.h (K.s (K.g ?_)))))
   refine K.l (K.OW.gcall hS [] [0, 1, 2, 3, 4] [] (awake10_ok _) ?_)
   clear hS; rintro _ _ w ⟨rfl, rfl⟩ hS
   replace hS : K.Sat w0 [m_11, gl_9, l_10, g_2, fr] w := hS
   refine K.q [.bool true, .int .u64 0, .bool true, .bool true, .bool true, .bool false, .bool true, .bool true, .bool true] (K.z (K.t (K.r (K.u ?_))))
   refine ⟨.inr rfl, rfl, (.bool true), K.res1 rfl rfl, [], ?_, hS.pick [4]⟩
   exact rfl
 ·
  replace hS : K.Sat w0 [g_2, fr] w := hS.of (by simp [K.pick, K.nth])
  refine K.q [.tuple #[.pointer none, .pointer none, .pointer none, .bool false], .pointer none, .pointer none, .pointer none, .bool false, .pointer none, .pointer none, .pointer none, .bool false] (K.z (K.t (K.s (K.s (K.g (K.q [.bool false, .bool true] (K.z (K.t (K.h (K.s (K.g ?_)))))))))))
  refine K.l (K.OW.gcall hS [] [0, 1] [] (awake10_ok _) ?_)
  clear hS; rintro _ _ w ⟨rfl, rfl⟩ hS
  replace hS : K.Sat w0 [g_2, fr] w := hS
  refine K.q [.bool true] (K.z (K.t (K.r (K.u ?_))))
  refine ⟨.inr rfl, rfl, (.bool true), K.res1 rfl rfl, [], ?_, hS.pick [1]⟩
  exact rfl

end Go.Proofs.Ytajkickofkeemaa
