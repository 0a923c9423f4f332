/- The statement FreeLists. -/
import Derived.Test.YtajkickofkeemaaLl9w
import Derived.Test.YtajkickofkeemaaKn
namespace Go.Proofs.Ytajkickofkeemaa
open Go.RowKit
set_option linter.unusedVariables false
attribute [local irreducible] K.KW K.RW K.DW K.OW K.QR K.KC

set_option maxHeartbeats 1000000 in
set_option maxRecDepth 100000 in
theorem l9lists_ok (w0 : World) (c : Cfg) (pa : Option Addr) (cp : Nat) (ps : List PutM) (hg : ∀ j, j < ps.length → isInt (ps.getD j pu0).at_ ∧ isW (ps.getD j pu0).w) (hxp : K.RowE w0 pa ps.length 2 (fun i => cPut (ps.getD i pu0))) :
  K.GC Try.prog w0 7 #[.agg #[.int .i64 c.th, .int .i64 c.sl, .int .i64 c.lo, .int .i64 c.bu, .slice pa ps.length cp]] [] (fun v post => v = .bool true) := by
 refine K.GC.mk (n := 61) Try.func7 rfl rfl [.agg #[.int .i64 c.th, .int .i64 c.sl, .int .i64 c.lo, .int .i64 c.bu, .slice pa ps.length cp]] rfl rfl ?_
 intro fr w hS
 replace hS : K.Sat w0 [fr] w := hS
 refine K.s (K.g ?_)
 refine K.l (K.OW.gnew 37 [.int .i64 c.th, .int .i64 c.sl, .int .i64 c.lo, .int .i64 c.bu, .slice pa ps.length cp] hS ?_)
 clear hS; intro w r_1 g_2 hg_3 hS
 refine K.q [.bool false] (K.z (K.t (K.s (K.g ?_))))
 refine K.a (K.QR.ldN [.int .i64 c.th, .int .i64 c.sl, .int .i64 c.lo, .int .i64 c.bu, .slice pa ps.length cp] rfl rfl (by kernel_rfl) (by kernel_rfl) (K.cells (K.cl ((hS.blk 0 rfl hg_3).cell rfl) (K.cl ((hS.blk 0 rfl hg_3).cell rfl) (K.cl ((hS.blk 0 rfl hg_3).cell rfl) (K.cl ((hS.blk 0 rfl hg_3).cell rfl) (K.cl ((hS.blk 0 rfl hg_3).cell rfl) K.cl0))))))) ?_
 refine K.l (K.OW.gcall hS [52] [0, 1] [.agg #[.int .i64 c.th, .int .i64 c.sl, .int .i64 c.lo, .int .i64 c.bu, .slice pa ps.length cp]] (lay_ok _ c _ _ ps (fun j hj => (hg j hj).1) _ (fun w h => hxp.no h.chg)) ?_)
 clear hS; rintro _ _ w (⟨b_4, p_5, q_6, r_7, u_8, _, _, gl_9, l_10, m_11, rfl, rfl, hl_12, x_13, y_14, rfl, rfl, hf_15, hp_16⟩ | ⟨rfl, rfl, h_17⟩) hS
 ·
  replace hS : K.Sat w0 [gl_9, l_10, m_11, g_2, fr] w := hS.of (by simp [K.pick, K.nth])
  have hc : cfgOk c := hf_15.1
  obtain ⟨hfa, hfb⟩ : (((1 ≤ c.th ∧ c.th ≤ 64) ∧ (1 ≤ c.sl ∧ c.sl ≤ 65536) ∧ (1 ≤ c.lo ∧ c.lo ≤ 64) ∧ (1 ≤ c.bu ∧ c.bu ≤ 64)) ∧ (c.th ≤ 6 ∧ c.sl ≤ 30 ∧ c.lo ≤ 8 ∧ c.bu ≤ 8)) := (by have h := hf_15; unfold fewC cfgOk at h; exact h)
  have hM : (groundM ((lns c).toNat) (c.th.toNat) (2 + c.th + c.sl).toNat ps).good := ground_good (fun j hj => (hg j hj).2)
  have hP : (((groundM ((lns c).toNat) (c.th.toNat) (2 + c.th + c.sl).toNat ps).pass.length : Nat) : Int) = 2 + c.th + c.sl := by rw [ground_pass]; omega
  refine K.q [.tuple #[.pointer (some ⟨b_4, 0, none⟩), .pointer (some ⟨p_5, 0, none⟩), .pointer (some ⟨r_7, 0, none⟩), .bool true], .pointer (some ⟨b_4, 0, none⟩), .pointer (some ⟨p_5, 0, none⟩), .pointer (some ⟨r_7, 0, none⟩), .bool true, .pointer (some ⟨b_4, 0, none⟩), .pointer (some ⟨p_5, 0, none⟩), .pointer (some ⟨r_7, 0, none⟩), .bool true] (K.z (K.t (K.s (K.s (K.g (K.q [.bool true, .bool false] (K.z (K.t (K.f (K.k (K.t (K.s (K.g (K.q [.pointer (some ⟨b_4, 0, none⟩), .pointer (some ⟨p_5, 0, none⟩)] ?_))))))))))))))
  refine K.l (K.OW.gcall hS [0, 1] [2, 3, 4] [.pointer (some ⟨b_4, 0, none⟩), .pointer (some ⟨p_5, 0, none⟩)] (list_ok _ _ _ _ _ _ c (by first | assumption | (unfold cfgOk; decide)) (by first | omega | decide) (groundM ((lns c).toNat) (c.th.toNat) (2 + c.th + c.sl).toNat ps) _ _ hl_12 x_13 (by assumption) (by assumption)) ?_)
  clear hS; rintro _ _ w ⟨r_18, c_19, l_20, rfl, rfl, o_21⟩ hS
  replace hS : K.Sat w0 [gl_9, l_10, l_20, m_11, g_2, fr] w := hS
  refine K.q [.tuple #[.slice r_18 ((listG c ((lns c).toNat) (groundM ((lns c).toNat) (c.th.toNat) (2 + c.th + c.sl).toNat ps)).1.length) c_19, .bool ((listG c ((lns c).toNat) (groundM ((lns c).toNat) (c.th.toNat) (2 + c.th + c.sl).toNat ps)).2)], .slice r_18 ((listG c ((lns c).toNat) (groundM ((lns c).toNat) (c.th.toNat) (2 + c.th + c.sl).toNat ps)).1.length) c_19, .bool ((listG c ((lns c).toNat) (groundM ((lns c).toNat) (c.th.toNat) (2 + c.th + c.sl).toNat ps)).2), .slice r_18 ((listG c ((lns c).toNat) (groundM ((lns c).toNat) (c.th.toNat) (2 + c.th + c.sl).toNat ps)).1.length) c_19, .bool ((listG c ((lns c).toNat) (groundM ((lns c).toNat) (c.th.toNat) (2 + c.th + c.sl).toNat ps)).2)] (K.z (K.t (K.s (K.g (K.q [.pointer (some ⟨r_1, 0, none⟩)] ?_)))))
  refine K.a (K.QR.ldN [.int .i64 c.th, .int .i64 c.sl, .int .i64 c.lo, .int .i64 c.bu] rfl rfl (by kernel_rfl) (by kernel_rfl) (K.cells (K.cl ((hS.blk 4 rfl hg_3).cell rfl) (K.cl ((hS.blk 4 rfl hg_3).cell rfl) (K.cl ((hS.blk 4 rfl hg_3).cell rfl) (K.cl ((hS.blk 4 rfl hg_3).cell rfl) K.cl0)))))) ?_
  refine K.q [.pointer (some ⟨r_7, 0, none⟩)] ?_
  refine K.l (K.OW.gcall hS [3] [0, 1, 2, 4, 5] [.agg #[.int .i64 c.th, .int .i64 c.sl, .int .i64 c.lo, .int .i64 c.bu], .pointer (some ⟨r_7, 0, none⟩)] (rlist_ok _ _ _ _ _ c (by assumption) (by omega) (groundM ((lns c).toNat) (c.th.toNat) (2 + c.th + c.sl).toNat ps) _ y_14 (by assumption) (by assumption)) ?_)
  clear hS; rintro _ _ w ⟨r_22, c_23, l_24, rfl, rfl, o_25⟩ hS
  replace hS : K.Sat w0 [m_11, l_24, gl_9, l_10, l_20, g_2, fr] w := hS
  refine K.q [.tuple #[.slice r_22 ((listG c ((lns c).toNat) (groundM ((lns c).toNat) (c.th.toNat) (2 + c.th + c.sl).toNat ps)).1.length) c_23, .bool ((listG c ((lns c).toNat) (groundM ((lns c).toNat) (c.th.toNat) (2 + c.th + c.sl).toNat ps)).2)], .slice r_22 ((listG c ((lns c).toNat) (groundM ((lns c).toNat) (c.th.toNat) (2 + c.th + c.sl).toNat ps)).1.length) c_23, .bool ((listG c ((lns c).toNat) (groundM ((lns c).toNat) (c.th.toNat) (2 + c.th + c.sl).toNat ps)).2), .slice r_22 ((listG c ((lns c).toNat) (groundM ((lns c).toNat) (c.th.toNat) (2 + c.th + c.sl).toNat ps)).1.length) c_23, .bool ((listG c ((lns c).toNat) (groundM ((lns c).toNat) (c.th.toNat) (2 + c.th + c.sl).toNat ps)).2)] (K.z (K.t (K.s (K.s (K.g (K.q [.bool ((listG c ((lns c).toNat) (groundM ((lns c).toNat) (c.th.toNat) (2 + c.th + c.sl).toNat ps)).2)] ?_))))))
  cases hb_26 : (listG c ((lns c).toNat) (groundM ((lns c).toNat) (c.th.toNat) (2 + c.th + c.sl).toNat ps)).2
  ·
   refine K.q [.bool false, .bool false, .bool false, .slice r_18 ((listG c ((lns c).toNat) (groundM ((lns c).toNat) (c.th.toNat) (2 + c.th + c.sl).toNat ps)).1.length) c_19] ?_
   refine K.a (K.QR.len (P := Try.prog) rfl rfl Try.underlying63) ?_
   refine K.q [.slice r_22 ((listG c ((lns c).toNat) (groundM ((lns c).toNat) (c.th.toNat) (2 + c.th + c.sl).toNat ps)).1.length) c_23] ?_
   refine K.a (K.QR.len (P := Try.prog) rfl rfl Try.underlying63) ?_
   refine K.xn ((((listG c ((lns c).toNat) (groundM ((lns c).toNat) (c.th.toNat) (2 + c.th + c.sl).toNat ps)).1.length : Nat) : Int) : Int) ((((listG c ((lns c).toNat) (groundM ((lns c).toNat) (c.th.toNat) (2 + c.th + c.sl).toNat ps)).1.length : Nat) : Int) : Int) (rfl) ?_
   refine K.q [.bool false] (K.z (K.t (K.f (K.k (K.t (K.s (K.s (K.g (K.q [.int .i64 0] (K.z (K.t ?_)))))))))))
   refine K.KW.block ?_
   have hle := o_21.le
   unfold maxLen at hle
   refine K.KW.loop (fun m_ F_ w_ => ∃ (j : Nat), m_ = ((listG c (lns c).toNat (groundM ((lns c).toNat) (c.th.toNat) (2 + c.th + c.sl).toNat ps)).1.length) - j ∧ K.Sl F_ [(0, .agg #[.int .i64 c.th, .int .i64 c.sl, .int .i64 c.lo, .int .i64 c.bu, .slice pa ps.length cp]), (7, .slice r_18 ((listG c ((lns c).toNat) (groundM ((lns c).toNat) (c.th.toNat) (2 + c.th + c.sl).toNat ps)).1.length) c_19), (9, .slice r_22 ((listG c ((lns c).toNat) (groundM ((lns c).toNat) (c.th.toNat) (2 + c.th + c.sl).toNat ps)).1.length) c_23), (11, .int .i64 ((j : Nat) : Int)), (61, undef)] ∧ j ≤ (listG c (lns c).toNat (groundM ((lns c).toNat) (c.th.toNat) (2 + c.th + c.sl).toNat ps)).1.length ∧ K.Sat w0 [m_11, l_24, gl_9, l_10, l_20, g_2, fr] w_) ((fun (j : Nat) => ((listG c (lns c).toNat (groundM ((lns c).toNat) (c.th.toNat) (2 + c.th + c.sl).toNat ps)).1.length) - j) 0) ?_ ?_
   ·
    exact ⟨0, rfl, ⟨by rfl, by rfl, by rfl, by rfl, by rfl, trivial⟩, (by omega), hS.pick [0, 1, 2, 3, 4, 5, 6]⟩
   ·
    clear hS
    intro m_27 F_28 w hI
    obtain ⟨j, rfl, sl_29, p_30, hS⟩ := hI
    rw [← K.Sl.puts sl_29]; clear sl_29
    refine K.s (K.s (K.g (K.q [.int .i64 ((j : Nat) : Int), .slice r_18 ((listG c ((lns c).toNat) (groundM ((lns c).toNat) (c.th.toNat) (2 + c.th + c.sl).toNat ps)).1.length) c_19] ?_)))
    refine K.a (K.QR.len (P := Try.prog) rfl rfl Try.underlying63) ?_
    by_cases h_31 : (((j : Nat) : Int) : Int) < ((((listG c ((lns c).toNat) (groundM ((lns c).toNat) (c.th.toNat) (2 + c.th + c.sl).toNat ps)).1.length : Nat) : Int) : Int)
    ·
     refine K.y ((((j : Nat) : Int) : Int) < ((((listG c ((lns c).toNat) (groundM ((lns c).toNat) (c.th.toNat) (2 + c.th + c.sl).toNat ps)).1.length : Nat) : Int) : Int)) h_31 ?_
     refine K.z (K.t (K.h (K.k (K.t (K.s ?_)))))
     refine K.KW.block ?_
     refine K.s ?_
     obtain ⟨b_32, rfl⟩ := o_21.some_ (by have := o_21.le; omega)
     obtain ⟨b_34, rfl⟩ := o_25.some_ (by have := o_25.le; omega)
     refine K.KW.gdrawn [4] hS (by kernel_rfl) ?_
     clear hS; intro w hS
     refine K.DW.q 0 (by kernel_rfl) rfl rfl (by kernel_rfl) rfl (fun w hS => K.QR.k (v := .slice (some ⟨b_32, 0, none⟩) ((listG c ((lns c).toNat) (groundM ((lns c).toNat) (c.th.toNat) (2 + c.th + c.sl).toNat ps)).1.length) c_19) (by kernel_rfl)) (hS.pick [4]) ?_
     refine K.DW.q 1 (by kernel_rfl) rfl rfl (by kernel_rfl) rfl (fun w hS => K.QR.k (v := .int .i64 ((j : Nat) : Int)) (by kernel_rfl)) (hS.pick [4]) ?_
     refine K.DW.q 2 (by kernel_rfl) rfl rfl (by kernel_rfl) rfl (fun w hS => K.QR.ix j 1 rfl rfl rfl Try.underlying63 (by kernel_rfl) (by omega) (by first | (simp; done) | omega | (simp; omega))) (hS.pick [4]) ?_
     refine K.DW.q 3 (by kernel_rfl) rfl rfl (by kernel_rfl) rfl (fun w hS => K.QR.ld1 (v := .int .i64 (((listG c ((lns c).toNat) (groundM ((lns c).toNat) (c.th.toNat) (2 + c.th + c.sl).toNat ps)).1).getD j 0)) rfl rfl (by kernel_rfl) (K.Own.atS (c := cI64) (d := 0) (fun _ => rfl) (hS.ownr 0 rfl o_21) rfl j (by omega))) (hS.pick [4]) ?_
     refine K.DW.q 4 (by kernel_rfl) rfl rfl (by kernel_rfl) rfl (fun w hS => K.QR.k (v := .slice (some ⟨b_34, 0, none⟩) ((listG c ((lns c).toNat) (groundM ((lns c).toNat) (c.th.toNat) (2 + c.th + c.sl).toNat ps)).1.length) c_23) (by kernel_rfl)) (hS.pick [4]) ?_
     refine K.DW.l 5 rfl (by kernel_rfl) rfl (K.OW.q rfl (K.QR.k (v := .int .i64 ((j : Nat) : Int)) (by kernel_rfl)) ?_)
     refine ⟨.inl (hS.pick [4]), ?_⟩
     refine K.DW.l 6 rfl (by kernel_rfl) rfl (K.OW.q rfl (K.QR.ix j 1 rfl rfl rfl Try.underlying63 (by kernel_rfl) (by omega) (by first | (simp; done) | omega | (simp; omega))) ?_)
     refine ⟨.inl (hS.pick [4]), ?_⟩
     refine K.DW.l 7 rfl (by kernel_rfl) rfl (K.OW.q rfl (K.QR.ld1 (v := .int .i64 (((listG c ((lns c).toNat) (groundM ((lns c).toNat) (c.th.toNat) (2 + c.th + c.sl).toNat ps)).1).getD j 0)) rfl rfl (by kernel_rfl) (K.Own.atS (c := cI64) (d := 0) (fun _ => rfl) (hS.ownr 1 rfl o_25) rfl j (by omega))) ?_)
     refine ⟨.inl (hS.pick [4]), ?_⟩
     refine K.DW.l 8 rfl (by kernel_rfl) rfl (K.OW.q rfl (K.QR.nice (v := .bool ((((listG c ((lns c).toNat) (groundM ((lns c).toNat) (c.th.toNat) (2 + c.th + c.sl).toNat ps)).1).getD j 0 : Int) != (((listG c ((lns c).toNat) (groundM ((lns c).toNat) (c.th.toNat) (2 + c.th + c.sl).toNat ps)).1).getD j 0 : Int))) (by kernel_rfl) (congrArg Value.bool (bne_eq_false_iff_eq.2 (rfl)))) ?_)
     refine ⟨.inl (hS.pick [4]), ?_⟩
     refine K.DW.done (by kernel_rfl) ?_
     refine K.t (K.f (K.k ?_))
     refine K.blk_normal ?_
     refine K.t (K.g (K.q [.int .i64 ((j : Nat) : Int)] ?_))
     refine K.a (K.QR.n64 ((((j : Nat) : Int) : Int) + (1 : Int)) ((j + 1 : Nat) : Int) (by kernel_rfl) (by omega)) ?_
     refine K.q [.int .i64 ((j + 1 : Nat) : Int)] (K.z (K.t ?_))
     refine ⟨_, ?_, j + 1, rfl, ⟨by rfl, by rfl, by rfl, by rfl, by rfl, trivial⟩, (by omega), hS.pick [0, 1, 2, 3, 4, 5, 6]⟩
     omega
    ·
     refine K.x ((((j : Nat) : Int) : Int) < ((((listG c ((lns c).toNat) (groundM ((lns c).toNat) (c.th.toNat) (2 + c.th + c.sl).toNat ps)).1.length : Nat) : Int) : Int)) h_31 ?_
     refine K.z (K.t (K.f ?_))
     refine K.KW.exit ?_
     refine K.thn_exit ?_
     refine K.thn_exit ?_
     refine K.blk_hit ?_
     refine K.t (K.s (K.g ?_))
     refine K.l (K.OW.gcall hS [] [0, 1, 2, 3, 4, 5, 6] [] (awake09_ok _) ?_)
     clear hS; rintro _ _ w ⟨rfl, rfl⟩ hS
     replace hS : K.Sat w0 [m_11, l_24, gl_9, l_10, l_20, g_2, fr] w := hS
     refine K.q [.bool true] (K.z (K.t (K.r ?_)))
     refine ⟨.inr rfl, rfl, (.bool true), K.res1 rfl rfl, [], ?_, hS.pick [6]⟩
     exact rfl
  ·
   refine K.q [.bool true, .bool false, .bool false, .slice r_18 ((listG c ((lns c).toNat) (groundM ((lns c).toNat) (c.th.toNat) (2 + c.th + c.sl).toNat ps)).1.length) c_19] ?_
   refine K.a (K.QR.len (P := Try.prog) rfl rfl Try.underlying63) ?_
   refine K.q [.slice r_22 ((listG c ((lns c).toNat) (groundM ((lns c).toNat) (c.th.toNat) (2 + c.th + c.sl).toNat ps)).1.length) c_23] ?_
   refine K.a (K.QR.len (P := Try.prog) rfl rfl Try.underlying63) ?_
   refine K.xn ((((listG c ((lns c).toNat) (groundM ((lns c).toNat) (c.th.toNat) (2 + c.th + c.sl).toNat ps)).1.length : Nat) : Int) : Int) ((((listG c ((lns c).toNat) (groundM ((lns c).toNat) (c.th.toNat) (2 + c.th + c.sl).toNat ps)).1.length : Nat) : Int) : Int) (rfl) ?_
   refine K.q [.bool false] (K.z (K.t (K.f (K.k (K.t (K.s (K.s (K.g (K.q [.int .i64 0] (K.z (K.t ?_)))))))))))
   refine K.KW.block ?_
   have hle := o_21.le
   unfold maxLen at hle
   refine K.KW.loop (fun m_ F_ w_ => ∃ (j : Nat), m_ = ((listG c (lns c).toNat (groundM ((lns c).toNat) (c.th.toNat) (2 + c.th + c.sl).toNat ps)).1.length) - j ∧ K.Sl F_ [(0, .agg #[.int .i64 c.th, .int .i64 c.sl, .int .i64 c.lo, .int .i64 c.bu, .slice pa ps.length cp]), (7, .slice r_18 ((listG c ((lns c).toNat) (groundM ((lns c).toNat) (c.th.toNat) (2 + c.th + c.sl).toNat ps)).1.length) c_19), (9, .slice r_22 ((listG c ((lns c).toNat) (groundM ((lns c).toNat) (c.th.toNat) (2 + c.th + c.sl).toNat ps)).1.length) c_23), (11, .int .i64 ((j : Nat) : Int)), (61, undef)] ∧ j ≤ (listG c (lns c).toNat (groundM ((lns c).toNat) (c.th.toNat) (2 + c.th + c.sl).toNat ps)).1.length ∧ K.Sat w0 [m_11, l_24, gl_9, l_10, l_20, g_2, fr] w_) ((fun (j : Nat) => ((listG c (lns c).toNat (groundM ((lns c).toNat) (c.th.toNat) (2 + c.th + c.sl).toNat ps)).1.length) - j) 0) ?_ ?_
   ·
    exact ⟨0, rfl, ⟨by rfl, by rfl, by rfl, by rfl, by rfl, trivial⟩, (by omega), hS.pick [0, 1, 2, 3, 4, 5, 6]⟩
   ·
    clear hS
    intro m_36 F_37 w hI
    obtain ⟨j, rfl, sl_38, p_39, hS⟩ := hI
    rw [← K.Sl.puts sl_38]; clear sl_38
    refine K.s (K.s (K.g (K.q [.int .i64 ((j : Nat) : Int), .slice r_18 ((listG c ((lns c).toNat) (groundM ((lns c).toNat) (c.th.toNat) (2 + c.th + c.sl).toNat ps)).1.length) c_19] ?_)))
    refine K.a (K.QR.len (P := Try.prog) rfl rfl Try.underlying63) ?_
    by_cases h_40 : (((j : Nat) : Int) : Int) < ((((listG c ((lns c).toNat) (groundM ((lns c).toNat) (c.th.toNat) (2 + c.th + c.sl).toNat ps)).1.length : Nat) : Int) : Int)
    ·
     refine K.y ((((j : Nat) : Int) : Int) < ((((listG c ((lns c).toNat) (groundM ((lns c).toNat) (c.th.toNat) (2 + c.th + c.sl).toNat ps)).1.length : Nat) : Int) : Int)) h_40 ?_
     refine K.z (K.t (K.h (K.k (K.t (K.s ?_)))))
     refine K.KW.block ?_
     refine K.s ?_
     obtain ⟨b_41, rfl⟩ := o_21.some_ (by have := o_21.le; omega)
     obtain ⟨b_43, rfl⟩ := o_25.some_ (by have := o_25.le; omega)
     refine K.KW.gdrawn [4] hS (by kernel_rfl) ?_
     clear hS; intro w hS
     refine K.DW.q 0 (by kernel_rfl) rfl rfl (by kernel_rfl) rfl (fun w hS => K.QR.k (v := .slice (some ⟨b_41, 0, none⟩) ((listG c ((lns c).toNat) (groundM ((lns c).toNat) (c.th.toNat) (2 + c.th + c.sl).toNat ps)).1.length) c_19) (by kernel_rfl)) (hS.pick [4]) ?_
     refine K.DW.q 1 (by kernel_rfl) rfl rfl (by kernel_rfl) rfl (fun w hS => K.QR.k (v := .int .i64 ((j : Nat) : Int)) (by kernel_rfl)) (hS.pick [4]) ?_
     refine K.DW.q 2 (by kernel_rfl) rfl rfl (by kernel_rfl) rfl (fun w hS => K.QR.ix j 1 rfl rfl rfl Try.underlying63 (by kernel_rfl) (by omega) (by first | (simp; done) | omega | (simp; omega))) (hS.pick [4]) ?_
     refine K.DW.q 3 (by kernel_rfl) rfl rfl (by kernel_rfl) rfl (fun w hS => K.QR.ld1 (v := .int .i64 (((listG c ((lns c).toNat) (groundM ((lns c).toNat) (c.th.toNat) (2 + c.th + c.sl).toNat ps)).1).getD j 0)) rfl rfl (by kernel_rfl) (K.Own.atS (c := cI64) (d := 0) (fun _ => rfl) (hS.ownr 0 rfl o_21) rfl j (by omega))) (hS.pick [4]) ?_
     refine K.DW.q 4 (by kernel_rfl) rfl rfl (by kernel_rfl) rfl (fun w hS => K.QR.k (v := .slice (some ⟨b_43, 0, none⟩) ((listG c ((lns c).toNat) (groundM ((lns c).toNat) (c.th.toNat) (2 + c.th + c.sl).toNat ps)).1.length) c_23) (by kernel_rfl)) (hS.pick [4]) ?_
     refine K.DW.l 5 rfl (by kernel_rfl) rfl (K.OW.q rfl (K.QR.k (v := .int .i64 ((j : Nat) : Int)) (by kernel_rfl)) ?_)
     refine ⟨.inl (hS.pick [4]), ?_⟩
     refine K.DW.l 6 rfl (by kernel_rfl) rfl (K.OW.q rfl (K.QR.ix j 1 rfl rfl rfl Try.underlying63 (by kernel_rfl) (by omega) (by first | (simp; done) | omega | (simp; omega))) ?_)
     refine ⟨.inl (hS.pick [4]), ?_⟩
     refine K.DW.l 7 rfl (by kernel_rfl) rfl (K.OW.q rfl (K.QR.ld1 (v := .int .i64 (((listG c ((lns c).toNat) (groundM ((lns c).toNat) (c.th.toNat) (2 + c.th + c.sl).toNat ps)).1).getD j 0)) rfl rfl (by kernel_rfl) (K.Own.atS (c := cI64) (d := 0) (fun _ => rfl) (hS.ownr 1 rfl o_25) rfl j (by omega))) ?_)
     refine ⟨.inl (hS.pick [4]), ?_⟩
     refine K.DW.l 8 rfl (by kernel_rfl) rfl (K.OW.q rfl (K.QR.nice (v := .bool ((((listG c ((lns c).toNat) (groundM ((lns c).toNat) (c.th.toNat) (2 + c.th + c.sl).toNat ps)).1).getD j 0 : Int) != (((listG c ((lns c).toNat) (groundM ((lns c).toNat) (c.th.toNat) (2 + c.th + c.sl).toNat ps)).1).getD j 0 : Int))) (by kernel_rfl) (congrArg Value.bool (bne_eq_false_iff_eq.2 (rfl)))) ?_)
     refine ⟨.inl (hS.pick [4]), ?_⟩
     refine K.DW.done (by kernel_rfl) ?_
     refine K.t (K.f (K.k ?_))
     refine K.blk_normal ?_
     refine K.t (K.g (K.q [.int .i64 ((j : Nat) : Int)] ?_))
     refine K.a (K.QR.n64 ((((j : Nat) : Int) : Int) + (1 : Int)) ((j + 1 : Nat) : Int) (by kernel_rfl) (by omega)) ?_
     refine K.q [.int .i64 ((j + 1 : Nat) : Int)] (K.z (K.t ?_))
     refine ⟨_, ?_, j + 1, rfl, ⟨by rfl, by rfl, by rfl, by rfl, by rfl, trivial⟩, (by omega), hS.pick [0, 1, 2, 3, 4, 5, 6]⟩
     omega
    ·
     refine K.x ((((j : Nat) : Int) : Int) < ((((listG c ((lns c).toNat) (groundM ((lns c).toNat) (c.th.toNat) (2 + c.th + c.sl).toNat ps)).1.length : Nat) : Int) : Int)) h_40 ?_
     refine K.z (K.t (K.f ?_))
     refine K.KW.exit ?_
     refine K.thn_exit ?_
     refine K.thn_exit ?_
     refine K.blk_hit ?_
     refine K.t (K.s (K.g ?_))
     refine K.l (K.OW.gcall hS [] [0, 1, 2, 3, 4, 5, 6] [] (awake09_ok _) ?_)
     clear hS; rintro _ _ w ⟨rfl, rfl⟩ hS
     replace hS : K.Sat w0 [m_11, l_24, gl_9, l_10, l_20, g_2, fr] w := hS
     refine K.q [.bool true] (K.z (K.t (K.r ?_)))
     refine ⟨.inr rfl, rfl, (.bool true), K.res1 rfl rfl, [], ?_, hS.pick [6]⟩
     exact rfl
 ·
  replace hS : K.Sat w0 [g_2, fr] w := hS.of (by simp [K.pick, K.nth])
  refine K.q [.tuple #[.pointer none, .pointer none, .pointer none, .bool false], .pointer none, .pointer none, .pointer none, .bool false, .pointer none, .pointer none, .pointer none, .bool false] (K.z (K.t (K.s (K.s (K.g (K.q [.bool false, .bool true] (K.z (K.t (K.h (K.s (K.g ?_)))))))))))
  refine K.l (K.OW.gcall hS [] [0, 1] [] (awake09_ok _) ?_)
  clear hS; rintro _ _ w ⟨rfl, rfl⟩ hS
  replace hS : K.Sat w0 [g_2, fr] w := hS
  refine K.q [.bool true] (K.z (K.t (K.r (K.u ?_))))
  refine ⟨.inr rfl, rfl, (.bool true), K.res1 rfl rfl, [], ?_, hS.pick [1]⟩
  exact rfl

end Go.Proofs.Ytajkickofkeemaa
