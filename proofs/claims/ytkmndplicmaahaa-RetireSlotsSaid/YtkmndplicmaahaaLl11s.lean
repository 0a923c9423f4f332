/- The statement RetireSlots. -/
import Derived.Test.YtkmndplicmaahaaFl11
import Derived.Test.YtkmndplicmaahaaKn
namespace Go.Proofs.Ytkmndplicmaahaa
open Go.RowKit
set_option linter.unusedVariables false
attribute [local irreducible] K.KW K.RW K.DW K.OW K.QR K.KC
theorem slotsT_le {c : Cfg} {n : Nat} {M : MemM} {tt : Int} {j : Nat} : ∀ N, j ≤ N → ∃ r, slotsT c n M tt N = slotsT c n M tt j ++ r
 | 0, h => ⟨[], by rw [show j = 0 by omega]; simp⟩
 | N + 1, h => by
  by_cases hj : j = N + 1
  ·exact ⟨[], by rw [hj]; simp⟩
  ·obtain ⟨r, hr⟩ := slotsT_le (c := c) (n := n) (M := M) (tt := tt) N (show j ≤ N by omega)
   have e : ∃ x, slotsT c n M tt (N + 1) = slotsT c n M tt N ++ x := ⟨_, by unfold slotsT; rw [List.range_succ, List.filterMap_append]⟩
   obtain ⟨x, hx⟩ := e
   exact ⟨r ++ x, by rw [hx, hr, List.append_assoc]⟩
theorem slotsT_at {c : Cfg} {n : Nat} {M : MemM} {tt y : Int} {j N : Nat} (h : M.peek n (logS c tt ((j : Nat) : Int)) = some y) (hy : ¬ y = 0) (hj : j < N) : (slotsT c n M tt j).length < (slotsT c n M tt N).length ∧ (slotsT c n M tt N).getD (slotsT c n M tt j).length 0 = toI y := by
 obtain ⟨r, hr⟩ := slotsT_le (c := c) (n := n) (M := M) (tt := tt) (j := j + 1) N (by omega)
 rw [slotsT_yes h hy] at hr
 rw [hr]
 exact ⟨by simp, by simp⟩
set_option maxHeartbeats 1000000 in
set_option maxRecDepth 100000 in
theorem l11slots_ok (w0 : World) (c : Cfg) (pa : Option Addr) (cp : Nat) (ps : List PutM) (hg : ∀ j, j < ps.length → isInt (ps.getD j pu0).at_ ∧ isW (ps.getD j pu0).w) (hxp : K.RowE w0 pa ps.length 2 (fun i => cPut (ps.getD i pu0))) (tt : Int) (htt : isInt tt) :
  K.GC Try.prog w0 5 #[.agg #[.int .i64 c.th, .int .i64 c.sl, .int .i64 c.lo, .int .i64 c.bu, .slice pa ps.length cp], .int .i64 tt] [] (fun v post => v = .bool true) := by
 refine K.GC.mk (n := 73) Try.func5 rfl rfl [.agg #[.int .i64 c.th, .int .i64 c.sl, .int .i64 c.lo, .int .i64 c.bu, .slice pa ps.length cp], .int .i64 tt] rfl rfl ?_
 intro fr w hS
 replace hS : K.Sat w0 [fr] w := hS
 refine K.s (K.g ?_)
 refine K.l (K.OW.gnew 38 [.int .i64 c.th, .int .i64 c.sl, .int .i64 c.lo, .int .i64 c.bu, .slice pa ps.length cp] hS ?_)
 clear hS; intro w r_1 g_2 hg_3 hS
 refine K.q [.bool false] (K.z (K.t (K.s (K.g ?_))))
 refine K.a (K.QR.ldN [.int .i64 c.th, .int .i64 c.sl, .int .i64 c.lo, .int .i64 c.bu, .slice pa ps.length cp] rfl rfl (by kernel_rfl) (by kernel_rfl) (K.cells (K.cl ((hS.blk 0 rfl hg_3).cell rfl) (K.cl ((hS.blk 0 rfl hg_3).cell rfl) (K.cl ((hS.blk 0 rfl hg_3).cell rfl) (K.cl ((hS.blk 0 rfl hg_3).cell rfl) (K.cl ((hS.blk 0 rfl hg_3).cell rfl) K.cl0))))))) ?_
 refine K.l (K.OW.gcall hS [52] [0, 1] [.agg #[.int .i64 c.th, .int .i64 c.sl, .int .i64 c.lo, .int .i64 c.bu, .slice pa ps.length cp]] (lay_ok _ c _ _ ps (fun j hj => (hg j hj).1) _ (fun w h => hxp.no h.chg)) ?_)
 clear hS; rintro _ _ w (⟨b_4, p_5, q_6, r_7, u_8, _, _, gl_9, l_10, m_11, rfl, rfl, hl_12, x_13, y_14, rfl, rfl, hf_15, hp_16⟩ | ⟨rfl, rfl, h_17⟩) hS
 ·
  replace hS : K.Sat w0 [gl_9, l_10, m_11, g_2, fr] w := hS.of (by simp [K.pick, K.nth])
  have hc : cfgOk c := hf_15.1
  obtain ⟨hfa, hfb⟩ : (((1 ≤ c.th ∧ c.th ≤ 64) ∧ (1 ≤ c.sl ∧ c.sl ≤ 65536) ∧ (1 ≤ c.lo ∧ c.lo ≤ 64) ∧ (1 ≤ c.bu ∧ c.bu ≤ 64)) ∧ (c.th ≤ 6 ∧ c.sl ≤ 30 ∧ c.lo ≤ 8 ∧ c.bu ≤ 8)) := (by have h := hf_15; unfold fewC cfgOk at h; exact h)
  have hM : (groundM ((lns c).toNat) (c.th.toNat) (2 + c.th + c.sl).toNat ps).good := ground_good (fun j hj => (hg j hj).2)
  have hP : (((groundM ((lns c).toNat) (c.th.toNat) (2 + c.th + c.sl).toNat ps).pass.length : Nat) : Int) = 2 + c.th + c.sl := by rw [ground_pass]; omega
  refine K.q [.tuple #[.pointer (some ⟨b_4, 0, none⟩), .pointer (some ⟨p_5, 0, none⟩), .pointer (some ⟨r_7, 0, none⟩), .bool true], .pointer (some ⟨b_4, 0, none⟩), .pointer (some ⟨p_5, 0, none⟩), .pointer (some ⟨r_7, 0, none⟩), .bool true, .pointer (some ⟨b_4, 0, none⟩), .pointer (some ⟨p_5, 0, none⟩), .pointer (some ⟨r_7, 0, none⟩), .bool true] (K.z (K.t (K.s (K.s (K.g (K.q [.bool true, .bool false] (K.z (K.t (K.f (K.k (K.t (K.s (K.g (K.q [.pointer (some ⟨b_4, 0, none⟩), .pointer (some ⟨p_5, 0, none⟩), .int .i64 tt] ?_))))))))))))))
  refine K.l (K.OW.gcall hS [0, 1] [2, 3, 4] [.pointer (some ⟨b_4, 0, none⟩), .pointer (some ⟨p_5, 0, none⟩), .int .i64 tt] (slots_ok _ _ _ _ _ _ c (by first | assumption | (unfold cfgOk; decide)) (groundM ((lns c).toNat) (c.th.toNat) (2 + c.th + c.sl).toNat ps) _ _ hl_12 x_13 (by assumption) tt (by omega)) ?_)
  clear hS; rintro _ _ w ⟨r_18, cc_19, l_20, rfl, rfl, o_21⟩ hS
  replace hS : K.Sat w0 [gl_9, l_10, l_20, m_11, g_2, fr] w := hS
  refine K.q [.slice r_18 ((slotsT c ((lns c).toNat) (groundM ((lns c).toNat) (c.th.toNat) (2 + c.th + c.sl).toNat ps) tt c.lo.toNat).length) cc_19] (K.z (K.t (K.s (K.g (K.q [.int .i64 0] (K.z (K.t (K.s (K.s (K.g (K.q [.int .i64 0] (K.z (K.t ?_)))))))))))))
  refine K.KW.block ?_
  refine K.KW.loop (fun m_ F_ w_ => ∃ (j : Nat), m_ = c.lo.toNat - j ∧ K.Sl F_ [(0, .agg #[.int .i64 c.th, .int .i64 c.sl, .int .i64 c.lo, .int .i64 c.bu, .slice pa ps.length cp]), (1, .int .i64 tt), (2, .pointer (some ⟨r_1, 0, none⟩)), (7, .pointer (some ⟨r_7, 0, none⟩)), (9, .slice r_18 ((slotsT c ((lns c).toNat) (groundM ((lns c).toNat) (c.th.toNat) (2 + c.th + c.sl).toNat ps) tt c.lo.toNat).length) cc_19), (10, .int .i64 (((slotsT c ((lns c).toNat) (groundM ((lns c).toNat) (c.th.toNat) (2 + c.th + c.sl).toNat ps) tt j).length : Nat) : Int)), (11, .int .i64 ((j : Nat) : Int)), (73, undef)] ∧ j ≤ c.lo.toNat ∧ K.Sat w0 [gl_9, l_10, l_20, m_11, g_2, fr] w_) ((fun (j : Nat) => c.lo.toNat - j) 0) ?_ ?_
  ·
   exact ⟨0, rfl, ⟨by rfl, by rfl, by rfl, by rfl, by rfl, by rfl, by rfl, by rfl, trivial⟩, (by omega), hS.pick [0, 1, 2, 3, 4, 5]⟩
  ·
   clear hS
   intro m_22 F_23 w hI
   obtain ⟨j, rfl, sl_24, p_25, hS⟩ := hI
   rw [← K.Sl.puts sl_24]; clear sl_24
   refine K.s (K.s (K.g (K.q [.int .i64 ((j : Nat) : Int), .pointer (some ⟨r_1, 0, none⟩), .pointer (some ⟨r_1, 2, none⟩)] ?_)))
   refine K.d (.int .i64 c.lo) ((hS.blk 4 rfl hg_3).cell rfl) ?_
   by_cases h_26 : (((j : Nat) : Int) : Int) < (c.lo : Int)
   ·
    refine K.y ((((j : Nat) : Int) : Int) < (c.lo : Int)) h_26 ?_
    refine K.z (K.t (K.h (K.k (K.t (K.s ?_)))))
    refine K.KW.block ?_
    refine K.s ?_
    have hli := log_int hc tt ((j : Nat) : Int)
    refine K.g (K.q [.pointer (some ⟨r_7, 0, none⟩), .pointer (some ⟨r_1, 0, none⟩)] ?_)
    refine K.a (K.QR.ldN [.int .i64 c.th, .int .i64 c.sl, .int .i64 c.lo, .int .i64 c.bu] rfl rfl (by kernel_rfl) (by kernel_rfl) (K.cells (K.cl ((hS.blk 4 rfl hg_3).cell rfl) (K.cl ((hS.blk 4 rfl hg_3).cell rfl) (K.cl ((hS.blk 4 rfl hg_3).cell rfl) (K.cl ((hS.blk 4 rfl hg_3).cell rfl) K.cl0)))))) ?_
    refine K.q [.int .i64 tt, .int .i64 ((j : Nat) : Int)] ?_
    refine K.l (K.OW.gcall hS [] [0, 1, 2, 3, 4, 5] [.agg #[.int .i64 c.th, .int .i64 c.sl, .int .i64 c.lo, .int .i64 c.bu], .int .i64 tt, .int .i64 ((j : Nat) : Int)] (rlog_ok _ c (by first | assumption | (unfold cfgOk; decide)) tt ((j : Nat) : Int)) ?_)
    clear hS; rintro _ _ w ⟨rfl, rfl⟩ hS
    replace hS : K.Sat w0 [gl_9, l_10, l_20, m_11, g_2, fr] w := hS
    refine K.l (K.OW.gcall hS [3] [0, 1, 2, 4, 5] [.pointer (some ⟨r_7, 0, none⟩), .int .i64 (logS c tt ((j : Nat) : Int))] (rmPeek_ok _ _ _ _ _ _ _ y_14 (logS c tt ((j : Nat) : Int)) (by omega)) ?_)
    clear hS; rintro _ _ w ⟨rfl, (⟨y_27, rfl, h_28⟩ | ⟨rfl, h_29⟩)⟩ hS
    ·
     replace hS : K.Sat w0 [m_11, gl_9, l_10, l_20, g_2, fr] w := hS
     refine K.q [.tuple #[.int .u64 y_27, .bool true], .int .u64 y_27, .bool true, .int .u64 y_27, .bool true] (K.z (K.t (K.s (K.s (K.g (K.q [.bool true, .bool false, .bool false, .int .u64 y_27] ?_))))))
     by_cases h_30 : (y_27 : Int) = (0 : Int)
     ·
      refine K.ye (y_27 : Int) (0 : Int) h_30 ?_
      refine K.q [.bool true] (K.z (K.t (K.h ?_)))
      refine K.KW.exit ?_
      refine K.thn_exit ?_
      refine K.blk_hit ?_
      refine K.t (K.g (K.q [.int .i64 ((j : Nat) : Int)] ?_))
      refine K.a (K.QR.n64 ((((j : Nat) : Int) : Int) + (1 : Int)) ((j + 1 : Nat) : Int) (by kernel_rfl) (by omega)) ?_
      refine K.q [.int .i64 ((j + 1 : Nat) : Int)] (K.z (K.t ?_))
      refine ⟨_, ?_, j + 1, rfl, ⟨by rfl, by rfl, by rfl, by rfl, by rfl, congrArg (fun m_ : Nat => Value.int .i64 (m_ : Int)) (show (slotsT c ((lns c).toNat) (groundM ((lns c).toNat) (c.th.toNat) (2 + c.th + c.sl).toNat ps) tt j).length = (slotsT c ((lns c).toNat) (groundM ((lns c).toNat) (c.th.toNat) (2 + c.th + c.sl).toNat ps) tt (j + 1)).length from by rw [slotsT_no (by rw [h_28]; show y_27 = 0; omega)]), by rfl, by rfl, trivial⟩, (by omega), hS.pick [1, 2, 3, 0, 4, 5]⟩
      omega
     ·
      refine K.xe (y_27 : Int) (0 : Int) h_30 ?_
      refine K.q [.bool false] (K.z (K.t (K.f (K.k (K.t (K.s (K.s ?_)))))))
      have hsl := slotsT_len (c := c) (n := (lns c).toNat) (M := (groundM ((lns c).toNat) (c.th.toNat) (2 + c.th + c.sl).toNat ps)) (tt := tt) (k := j)
      obtain ⟨hlt, hget⟩ := slotsT_at (N := c.lo.toNat) h_28 (show ¬ y_27 = 0 by omega) (by omega)
      have hyW : isW y_27 := peek_W hM h_28
      obtain ⟨b_31, rfl⟩ := o_21.some_ (by have := o_21.le; omega)
      refine K.KW.gdrawn [3] hS (by kernel_rfl) ?_
      clear hS; intro w hS
      refine K.p 0 rfl (.int .i64 (((slotsT c ((lns c).toNat) (groundM ((lns c).toNat) (c.th.toNat) (2 + c.th + c.sl).toNat ps) tt j).length : Nat) : Int)) (hS.pick [3]) ?_
      refine K.b 1 rfl (.slice (some ⟨b_31, 0, none⟩) ((slotsT c ((lns c).toNat) (groundM ((lns c).toNat) (c.th.toNat) (2 + c.th + c.sl).toNat ps) tt c.lo.toNat).length) cc_19) (hS.pick [3]) ?_
      refine K.c 2 rfl (K.QR.len (P := Try.prog) rfl rfl Try.underlying57) (hS.pick [3]) ?_
      refine K.c 3 rfl (K.QR.nice (v := .bool (decide (((((slotsT c ((lns c).toNat) (groundM ((lns c).toNat) (c.th.toNat) (2 + c.th + c.sl).toNat ps) tt j).length : Nat) : Int) : Int) ≥ ((((slotsT c ((lns c).toNat) (groundM ((lns c).toNat) (c.th.toNat) (2 + c.th + c.sl).toNat ps) tt c.lo.toNat).length : Nat) : Int) : Int)))) (by kernel_rfl) (congrArg Value.bool (decide_eq_false (by omega)))) (hS.pick [3]) ?_
      refine K.b 4 rfl (.bool false) (hS.pick [3]) ?_
      refine K.p 5 rfl (.slice (some ⟨b_31, 0, none⟩) ((slotsT c ((lns c).toNat) (groundM ((lns c).toNat) (c.th.toNat) (2 + c.th + c.sl).toNat ps) tt c.lo.toNat).length) cc_19) (hS.pick [3]) ?_
      refine K.p 6 rfl (.int .i64 (((slotsT c ((lns c).toNat) (groundM ((lns c).toNat) (c.th.toNat) (2 + c.th + c.sl).toNat ps) tt j).length : Nat) : Int)) (hS.pick [3]) ?_
      refine K.m 7 rfl (fun w hS => K.QR.ix ((slotsT c ((lns c).toNat) (groundM ((lns c).toNat) (c.th.toNat) (2 + c.th + c.sl).toNat ps) tt j).length) 1 rfl rfl rfl Try.underlying57 (by kernel_rfl) (by omega) (by first | (simp; done) | omega | (simp; omega))) (hS.pick [3]) ?_
      refine K.o_ 8 rfl (.int .i64 ((slotsT c ((lns c).toNat) (groundM ((lns c).toNat) (c.th.toNat) (2 + c.th + c.sl).toNat ps) tt c.lo.toNat).getD ((slotsT c ((lns c).toNat) (groundM ((lns c).toNat) (c.th.toNat) (2 + c.th + c.sl).toNat ps) tt j).length) 0)) (fun w hS => (K.Own.atS (c := cI64) (d := 0) (fun _ => rfl) (hS.ownr 0 rfl o_21) rfl ((slotsT c ((lns c).toNat) (groundM ((lns c).toNat) (c.th.toNat) (2 + c.th + c.sl).toNat ps) tt j).length) (by omega))) (hS.pick [3]) ?_
      refine K.b 9 rfl (.int .u64 y_27) (hS.pick [3]) ?_
      refine K.DW.l 10 rfl (by kernel_rfl) (by kernel_rfl) (K.OW.gcall hS [] [0, 1, 2, 3, 4, 5] [.int .u64 y_27] (rto_ok _ y_27 (by first | assumption | (unfold isW; omega))) ?_)
      clear hS; rintro _ _ w ⟨rfl, rfl⟩ hS
      replace hS : K.Sat w0 [m_11, gl_9, l_10, l_20, g_2, fr] w := hS
      refine ⟨.inl (hS.pick [3]), ?_⟩
      refine K.c 11 rfl (K.QR.nice (v := .bool (((slotsT c ((lns c).toNat) (groundM ((lns c).toNat) (c.th.toNat) (2 + c.th + c.sl).toNat ps) tt c.lo.toNat).getD ((slotsT c ((lns c).toNat) (groundM ((lns c).toNat) (c.th.toNat) (2 + c.th + c.sl).toNat ps) tt j).length) 0 : Int) != ((toI y_27) : Int))) (by kernel_rfl) (congrArg Value.bool (bne_eq_false_iff_eq.2 (hget)))) (hS.pick [3]) ?_
      refine K.b 12 rfl (.bool false) (hS.pick [3]) ?_
      refine K.DW.done (by kernel_rfl) ?_
      refine K.t (K.f (K.k (K.t (K.g (K.q [.int .i64 (((slotsT c ((lns c).toNat) (groundM ((lns c).toNat) (c.th.toNat) (2 + c.th + c.sl).toNat ps) tt j).length : Nat) : Int)] ?_)))))
      refine K.a (K.QR.n64 (((((slotsT c ((lns c).toNat) (groundM ((lns c).toNat) (c.th.toNat) (2 + c.th + c.sl).toNat ps) tt j).length : Nat) : Int) : Int) + (1 : Int)) (((slotsT c ((lns c).toNat) (groundM ((lns c).toNat) (c.th.toNat) (2 + c.th + c.sl).toNat ps) tt j).length + 1 : Nat) : Int) (by kernel_rfl) (by omega)) ?_
      refine K.q [.int .i64 (((slotsT c ((lns c).toNat) (groundM ((lns c).toNat) (c.th.toNat) (2 + c.th + c.sl).toNat ps) tt j).length + 1 : Nat) : Int)] (K.z ?_)
      refine K.blk_normal ?_
      refine K.t (K.g (K.q [.int .i64 ((j : Nat) : Int)] ?_))
      refine K.a (K.QR.n64 ((((j : Nat) : Int) : Int) + (1 : Int)) ((j + 1 : Nat) : Int) (by kernel_rfl) (by omega)) ?_
      refine K.q [.int .i64 ((j + 1 : Nat) : Int)] (K.z (K.t ?_))
      refine ⟨_, ?_, j + 1, rfl, ⟨by rfl, by rfl, by rfl, by rfl, by rfl, congrArg (fun m_ : Nat => Value.int .i64 (m_ : Int)) (show (slotsT c ((lns c).toNat) (groundM ((lns c).toNat) (c.th.toNat) (2 + c.th + c.sl).toNat ps) tt j).length + 1 = (slotsT c ((lns c).toNat) (groundM ((lns c).toNat) (c.th.toNat) (2 + c.th + c.sl).toNat ps) tt (j + 1)).length from by rw [slotsT_yes h_28 (show ¬ y_27 = 0 by omega)]; simp), by rfl, by rfl, trivial⟩, (by omega), hS.pick [1, 2, 3, 0, 4, 5]⟩
      omega
    ·
     replace hS : K.Sat w0 [m_11, gl_9, l_10, l_20, g_2, fr] w := hS
     refine K.q [.tuple #[.int .u64 0, .bool false], .int .u64 0, .bool false, .int .u64 0, .bool false] (K.z (K.t (K.s (K.s (K.g (K.q [.bool false, .bool true, .bool true] (K.n_ (K.n_ (K.q [.bool true] (K.z (K.t (K.h ?_))))))))))))
     refine K.KW.exit ?_
     refine K.thn_exit ?_
     refine K.blk_hit ?_
     refine K.t (K.g (K.q [.int .i64 ((j : Nat) : Int)] ?_))
     refine K.a (K.QR.n64 ((((j : Nat) : Int) : Int) + (1 : Int)) ((j + 1 : Nat) : Int) (by kernel_rfl) (by omega)) ?_
     refine K.q [.int .i64 ((j + 1 : Nat) : Int)] (K.z (K.t ?_))
     refine ⟨_, ?_, j + 1, rfl, ⟨by rfl, by rfl, by rfl, by rfl, by rfl, congrArg (fun m_ : Nat => Value.int .i64 (m_ : Int)) (show (slotsT c ((lns c).toNat) (groundM ((lns c).toNat) (c.th.toNat) (2 + c.th + c.sl).toNat ps) tt j).length = (slotsT c ((lns c).toNat) (groundM ((lns c).toNat) (c.th.toNat) (2 + c.th + c.sl).toNat ps) tt (j + 1)).length from by rw [slotsT_no (by rw [h_29]; rfl)]), by rfl, by rfl, trivial⟩, (by omega), hS.pick [1, 2, 3, 0, 4, 5]⟩
     omega
   ·
    refine K.x ((((j : Nat) : Int) : Int) < (c.lo : Int)) h_26 ?_
    refine K.z (K.t (K.f ?_))
    refine K.KW.exit ?_
    refine K.thn_exit ?_
    refine K.thn_exit ?_
    refine K.blk_hit ?_
    refine K.t (K.s (K.g ?_))
    refine K.l (K.OW.gcall hS [] [0, 1, 2, 3, 4, 5] [] (awake11_ok _) ?_)
    clear hS; rintro _ _ w ⟨rfl, rfl⟩ hS
    replace hS : K.Sat w0 [gl_9, l_10, l_20, m_11, g_2, fr] w := hS
    refine K.q [.bool true, .int .i64 (((slotsT c ((lns c).toNat) (groundM ((lns c).toNat) (c.th.toNat) (2 + c.th + c.sl).toNat ps) tt j).length : Nat) : Int), .slice r_18 ((slotsT c ((lns c).toNat) (groundM ((lns c).toNat) (c.th.toNat) (2 + c.th + c.sl).toNat ps) tt c.lo.toNat).length) cc_19] ?_
    refine K.a (K.QR.len (P := Try.prog) rfl rfl Try.underlying57) ?_
    refine K.ye ((((slotsT c ((lns c).toNat) (groundM ((lns c).toNat) (c.th.toNat) (2 + c.th + c.sl).toNat ps) tt j).length : Nat) : Int) : Int) ((((slotsT c ((lns c).toNat) (groundM ((lns c).toNat) (c.th.toNat) (2 + c.th + c.sl).toNat ps) tt c.lo.toNat).length : Nat) : Int) : Int) (by rw [show j = c.lo.toNat by omega]) ?_
    refine K.q [.bool true, .bool true] (K.z (K.t (K.r ?_)))
    refine ⟨.inr rfl, rfl, (.bool true), K.res1 rfl rfl, [], ?_, hS.pick [5]⟩
    exact rfl
 ·
  replace hS : K.Sat w0 [g_2, fr] w := hS.of (by simp [K.pick, K.nth])
  refine K.q [.tuple #[.pointer none, .pointer none, .pointer none, .bool false], .pointer none, .pointer none, .pointer none, .bool false, .pointer none, .pointer none, .pointer none, .bool false] (K.z (K.t (K.s (K.s (K.g (K.q [.bool false, .bool true] (K.z (K.t (K.h (K.s (K.g ?_)))))))))))
  refine K.l (K.OW.gcall hS [] [0, 1] [] (awake11_ok _) ?_)
  clear hS; rintro _ _ w ⟨rfl, rfl⟩ hS
  replace hS : K.Sat w0 [g_2, fr] w := hS
  refine K.q [.bool true] (K.z (K.t (K.r (K.u ?_))))
  refine ⟨.inr rfl, rfl, (.bool true), K.res1 rfl rfl, [], ?_, hS.pick [1]⟩
  exact rfl
end Go.Proofs.Ytkmndplicmaahaa
