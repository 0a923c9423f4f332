/- The statement RetireFull. -/
import Derived.Test.YtkmndplicmaahaaFl11f
import Derived.Test.YtkmndplicmaahaaKn
namespace Go.Proofs.Ytkmndplicmaahaa
open Go.RowKit
set_option linter.unusedVariables false
attribute [local irreducible] K.KW K.RW K.DW K.OW K.QR K.KC
set_option maxHeartbeats 1000000 in
set_option maxRecDepth 100000 in
theorem l11full_ok (w0 : World) (c : Cfg) (t : Int) (ht0 : isInt t) (x0 x1 x2 x3 x4 x5 x6 x7 : Int) :
  K.GC Try.prog w0 8 #[.agg #[.int .i64 c.th, .int .i64 c.sl, .int .i64 c.lo, .int .i64 c.bu], .int .i64 t, .agg #[.int .u64 x0, .int .u64 x1, .int .u64 x2, .int .u64 x3, .int .u64 x4, .int .u64 x5, .int .u64 x6, .int .u64 x7]] [] (fun v post => v = .bool true) := by
 refine K.GC.mk (n := 97) Try.func8 rfl rfl [.agg #[.int .i64 c.th, .int .i64 c.sl, .int .i64 c.lo, .int .i64 c.bu], .int .i64 t, .agg #[.int .u64 x0, .int .u64 x1, .int .u64 x2, .int .u64 x3, .int .u64 x4, .int .u64 x5, .int .u64 x6, .int .u64 x7]] rfl rfl ?_
 intro fr w hS
 replace hS : K.Sat w0 [fr] w := hS
 refine K.s (K.g ?_)
 refine K.l (K.OW.gnew 23 [.int .i64 c.th, .int .i64 c.sl, .int .i64 c.lo, .int .i64 c.bu] hS ?_)
 clear hS; intro w r_1 g_2 hg_3 hS
 refine K.l (K.OW.gnew 78 [.int .u64 x0, .int .u64 x1, .int .u64 x2, .int .u64 x3, .int .u64 x4, .int .u64 x5, .int .u64 x6, .int .u64 x7] hS ?_)
 clear hS; intro w r_4 g_5 hg_6 hS
 refine K.q [.bool false] (K.z (K.t (K.s (K.s (K.g ?_)))))
 refine K.a (K.QR.ldN [.int .i64 c.th, .int .i64 c.sl, .int .i64 c.lo, .int .i64 c.bu] rfl rfl (by kernel_rfl) (by kernel_rfl) (K.cells (K.cl ((hS.blk 1 rfl hg_3).cell rfl) (K.cl ((hS.blk 1 rfl hg_3).cell rfl) (K.cl ((hS.blk 1 rfl hg_3).cell rfl) (K.cl ((hS.blk 1 rfl hg_3).cell rfl) K.cl0)))))) ?_
 refine K.l (K.OW.gcall hS [] [0, 1, 2] [.agg #[.int .i64 c.th, .int .i64 c.sl, .int .i64 c.lo, .int .i64 c.bu]] (few09_ok _ c) ?_)
 clear hS; rintro _ _ w ⟨rfl, (⟨rfl, h_7⟩ | ⟨rfl, h_8⟩)⟩ hS
 ·
  replace hS : K.Sat w0 [g_5, g_2, fr] w := hS
  have hc_9 := h_7.1
  obtain ⟨hf_10, hf_11, hf_12, hf_13, hf_14⟩ := (show _ from (by have h := h_7; unfold fewC cfgOk at h; exact h))
  refine K.q [.bool false, .bool false, .int .i64 t] ?_
  by_cases h_15 : (t : Int) < (0 : Int)
  ·
   refine K.y ((t : Int) < (0 : Int)) h_15 ?_
   refine K.q [.bool true, .bool true] (K.n_ (K.n_ (K.n_ (K.n_ (K.q [.bool true] (K.z (K.t (K.h (K.s (K.g ?_))))))))))
   refine K.l (K.OW.gcall hS [] [0, 1, 2] [] (awake11_ok _) ?_)
   clear hS; rintro _ _ w ⟨rfl, rfl⟩ hS
   replace hS : K.Sat w0 [g_5, g_2, fr] w := hS
   refine K.q [.bool true] (K.z (K.t (K.r (K.u ?_))))
   refine ⟨.inr rfl, rfl, (.bool true), K.res1 rfl rfl, [], ?_, hS.pick [2]⟩
   exact rfl
  ·
   refine K.x ((t : Int) < (0 : Int)) h_15 ?_
   refine K.q [.bool false, .bool false, .int .i64 t, .pointer (some ⟨r_1, 0, none⟩)] ?_
   refine K.d (.int .i64 c.th) ((hS.blk 1 rfl hg_3).cell rfl) ?_
   by_cases h_16 : (t : Int) ≥ (c.th : Int)
   ·
    refine K.y ((t : Int) ≥ (c.th : Int)) h_16 ?_
    refine K.q [.bool true] (K.z (K.t (K.h (K.s (K.g ?_)))))
    refine K.l (K.OW.gcall hS [] [0, 1, 2] [] (awake11_ok _) ?_)
    clear hS; rintro _ _ w ⟨rfl, rfl⟩ hS
    replace hS : K.Sat w0 [g_5, g_2, fr] w := hS
    refine K.q [.bool true] (K.z (K.t (K.r (K.u ?_))))
    refine ⟨.inr rfl, rfl, (.bool true), K.res1 rfl rfl, [], ?_, hS.pick [2]⟩
    exact rfl
   ·
    refine K.x ((t : Int) ≥ (c.th : Int)) h_16 ?_
    refine K.q [.bool false] (K.z (K.t (K.f (K.k (K.t (K.s (K.g ?_)))))))
    refine K.a (K.QR.ldN [.int .i64 c.th, .int .i64 c.sl, .int .i64 c.lo, .int .i64 c.bu] rfl rfl (by kernel_rfl) (by kernel_rfl) (K.cells (K.cl ((hS.blk 1 rfl hg_3).cell rfl) (K.cl ((hS.blk 1 rfl hg_3).cell rfl) (K.cl ((hS.blk 1 rfl hg_3).cell rfl) (K.cl ((hS.blk 1 rfl hg_3).cell rfl) K.cl0)))))) ?_
    refine K.a (K.QR.bd [(0, .agg #[.int .i64 c.th, .int .i64 c.sl, .int .i64 c.lo, .int .i64 c.bu])] [.int .i64 c.th, .int .i64 c.sl, .int .i64 c.lo, .int .i64 c.bu, .slice none 0 0] rfl rfl (by kernel_rfl)) ?_
    refine K.l (K.OW.gnew 38 [.int .i64 0, .int .i64 0, .int .i64 0, .int .i64 0, .slice none 0 0] hS ?_)
    clear hS; intro w r_17 g_18 hg_19 hS
    refine K.l (K.OW.gst 0 [.int .i64 c.th, .int .i64 c.sl, .int .i64 c.lo, .int .i64 c.bu, .slice none 0 0] [.int .i64 c.th, .int .i64 c.sl, .int .i64 c.lo, .int .i64 c.bu, .slice none 0 0] hS hg_19 ?_)
    clear hS; intro w g_20 hg_21 hS
    replace hS : K.Sat w0 [g_20, g_5, g_2, fr] w := hS
    refine K.z (K.t (K.s (K.s (K.g (K.q [.int .i64 0] (K.z (K.t ?_)))))))
    refine K.KW.block ?_
    have o_22 : K.OwnG g_5 78 1 (some ⟨r_4, 0, none⟩) 8 8 ((([x0, x1, x2, x3, x4, x5, x6, x7] : List Int)).flatMap cU64) := K.OwnG.ofPt hg_6 8 (by unfold maxLen; omega) rfl
    obtain ⟨z_23, hz_24⟩ : ∃ z : K.Cs, z = [] := ⟨_, rfl⟩
    replace hS : K.Sat w0 [z_23, g_20, g_5, g_2, fr] w := hS.of (by simp [hz_24])
    have o_25 : K.OwnG z_23 35 2 none 0 0 [] := by rw [hz_24]; exact K.OwnG.nil _ _
    refine K.KW.loop (fun m_ F_ w_ => ∃ (j : Nat) (q1 : Option Addr) (c1 : Nat) (b7 : K.Cs) (o1 : K.Cs), m_ = c.lo.toNat - j ∧ K.Sl F_ [(0, .agg #[.int .i64 c.th, .int .i64 c.sl, .int .i64 c.lo, .int .i64 c.bu]), (1, .int .i64 t), (2, .agg #[.int .u64 x0, .int .u64 x1, .int .u64 x2, .int .u64 x3, .int .u64 x4, .int .u64 x5, .int .u64 x6, .int .u64 x7]), (3, .pointer (some ⟨r_1, 0, none⟩)), (5, .pointer (some ⟨r_4, 0, none⟩)), (6, .bool false), (7, .pointer (some ⟨r_17, 0, none⟩)), (8, .int .i64 ((j : Nat) : Int)), (97, undef)] ∧ j ≤ c.lo.toNat ∧ b7 = [K.pt r_17 38 [.int .i64 c.th, .int .i64 c.sl, .int .i64 c.lo, .int .i64 c.bu, .slice q1 j c1]] ∧ K.OwnG o1 35 2 q1 j c1 (((putsF c t [x0, x1, x2, x3, x4, x5, x6, x7] j)).flatMap cPut) ∧ K.Sat w0 [o1, b7, g_5, g_2, fr] w_) ((fun (j : Nat) (q1 : Option Addr) (c1 : Nat) => c.lo.toNat - j) 0 none 0) ?_ ?_
    ·
     exact ⟨0, none, 0, g_20, z_23, rfl, ⟨by rfl, by rfl, by rfl, by rfl, by rfl, by rfl, by rfl, by rfl, by rfl, trivial⟩, (by omega), hg_21, o_25, hS.pick [0, 1, 2, 3, 4]⟩
    ·
     clear hS
     intro m_26 F_27 w hI
     obtain ⟨j, q1, c1, b7, o1, rfl, sl_28, p_29, x_30, x_31, hS⟩ := hI
     rw [← K.Sl.puts sl_28]; clear sl_28
     refine K.s (K.s (K.g (K.q [.int .i64 ((j : Nat) : Int), .pointer (some ⟨r_1, 2, none⟩)] ?_)))
     refine K.d (.int .i64 c.lo) ((hS.blk 3 rfl hg_3).cell rfl) ?_
     by_cases h_32 : (((j : Nat) : Int) : Int) < (c.lo : Int)
     ·
      refine K.y ((((j : Nat) : Int) : Int) < (c.lo : Int)) h_32 ?_
      refine K.z (K.t (K.h (K.k (K.t (K.s ?_)))))
      refine K.KW.block ?_
      refine K.KW.gdrawn [1, 2, 3] hS (by kernel_rfl) ?_
      clear hS; intro w hS
      refine K.p 0 rfl (.pointer (some ⟨r_17, 4, none⟩)) (hS.pick [1, 2, 3]) ?_
      refine K.o_ 1 rfl (.slice q1 j c1) (fun w hS => ((hS.blk 0 rfl x_30).cell rfl)) (hS.pick [1, 2, 3]) ?_
      refine K.m 2 rfl (fun w hS => K.QR.ldN [.int .i64 c.th, .int .i64 c.sl, .int .i64 c.lo, .int .i64 c.bu] rfl rfl (by kernel_rfl) (by kernel_rfl) (K.cells (K.cl ((hS.blk 2 rfl hg_3).cell rfl) (K.cl ((hS.blk 2 rfl hg_3).cell rfl) (K.cl ((hS.blk 2 rfl hg_3).cell rfl) (K.cl ((hS.blk 2 rfl hg_3).cell rfl) K.cl0)))))) (hS.pick [1, 2, 3]) ?_
      refine K.p 3 rfl (.int .i64 t) (hS.pick [1, 2, 3]) ?_
      refine K.p 4 rfl (.int .i64 ((j : Nat) : Int)) (hS.pick [1, 2, 3]) ?_
      refine K.p 6 rfl (.int .i64 ((j : Nat) : Int)) (hS.pick [1, 2, 3]) ?_
      refine K.m 7 rfl (fun w hS => K.QR.ixA (0 + j * 1) 1 rfl rfl rfl Try.underlying78 (by kernel_rfl) (by omega) (by first | (simp; done) | omega | (simp; omega))) (hS.pick [1, 2, 3]) ?_
      refine K.o_ 8 rfl (.int .u64 (([x0, x1, x2, x3, x4, x5, x6, x7] : List Int).getD (0 + j * 1) 0)) (fun w hS => (K.Own.atS (c := cU64) (d := 0) (fun _ => rfl) (hS.ownr 1 rfl o_22) rfl (0 + j * 1) (by omega))) (hS.pick [1, 2, 3]) ?_
      refine K.m 9 rfl (fun w hS => K.QR.or rfl rfl rfl) (hS.pick [1, 2, 3]) ?_
      refine K.DW.l 5 rfl (by kernel_rfl) rfl (K.OW.gcall hS [] [0, 1, 2, 3, 4] [.agg #[.int .i64 c.th, .int .i64 c.sl, .int .i64 c.lo, .int .i64 c.bu], .int .i64 t, .int .i64 ((j : Nat) : Int)] (rlog_ok _ c (by first | assumption | (unfold cfgOk; decide)) t ((j : Nat) : Int)) ?_)
      clear hS; rintro _ _ w ⟨rfl, rfl⟩ hS
      replace hS : K.Sat w0 [o1, b7, g_5, g_2, fr] w := hS
      refine ⟨.inl (hS.pick [1, 2, 3]), ?_⟩
      refine K.c 10 rfl (K.QR.bd [(0, .int .i64 (logS c t ((j : Nat) : Int))), (1, .int .u64 (K.orK .u64 (([x0, x1, x2, x3, x4, x5, x6, x7] : List Int).getD (0 + j * 1) 0) 1))] [.int .i64 (logS c t ((j : Nat) : Int)), .int .u64 (K.orK .u64 (([x0, x1, x2, x3, x4, x5, x6, x7] : List Int).getD (0 + j * 1) 0) 1)] rfl rfl (by kernel_rfl)) (hS.pick [1, 2, 3]) ?_
      refine K.DW.l 11 rfl (by kernel_rfl) rfl (K.OW.gbs [(0, .agg #[.int .i64 (logS c t ((j : Nat) : Int)), .int .u64 (K.orK .u64 (([x0, x1, x2, x3, x4, x5, x6, x7] : List Int).getD (0 + j * 1) 0) 1)])] [.int .i64 (logS c t ((j : Nat) : Int)), .int .u64 (K.orK .u64 (([x0, x1, x2, x3, x4, x5, x6, x7] : List Int).getD (0 + j * 1) 0) 1)] hS (fun w => K.bs_run (P := Try.prog) w 36 35 1 _ _ Try.underlying36 (by kernel_rfl)) ?_)
      clear hS; intro w r_33 g_34 hg_35 hS
      refine ⟨.inl (hS.pick [2, 3, 4]), ?_⟩
      refine K.DW.l 12 rfl (by kernel_rfl) rfl (K.OW.gapp (P := Try.prog) (xs := ((putsF c t [x0, x1, x2, x3, x4, x5, x6, x7] j)).flatMap cPut) (z := .agg #[.int .i64 0, .int .u64 0]) (size := 2) (bytes := 16) 1 [.int .i64 (logS c t ((j : Nat) : Int)), .int .u64 (K.orK .u64 (([x0, x1, x2, x3, x4, x5, x6, x7] : List Int).getD (0 + j * 1) 0) 1)] hS x_31 ?_ (fun j u hj => (by rw [Nat.zero_add]; exact (hS.blk 0 rfl hg_35).cell hj)) (K.one_cells (by rfl)) (by rfl) Try.underlying36 (by kernel_rfl) rfl (by decide) (by unfold maxLen; omega) (by omega))
      clear hS; intro a_36 cap_37 w l_38 o_39 hS
      have ln_40 : (((putsF c t [x0, x1, x2, x3, x4, x5, x6, x7] j) ++ [(⟨(logS c t ((j : Nat) : Int)), K.orK .u64 (([x0, x1, x2, x3, x4, x5, x6, x7] : List Int).getD (0 + j * 1) 0) 1⟩ : PutM)])).length = j + 1 := by rw [List.length_append, (putsF_len _ _ _ _)]; rfl
      have o_39c := K.OwnG.cast (xs' := (((putsF c t [x0, x1, x2, x3, x4, x5, x6, x7] j) ++ [(⟨(logS c t ((j : Nat) : Int)), K.orK .u64 (([x0, x1, x2, x3, x4, x5, x6, x7] : List Int).getD (0 + j * 1) 0) 1⟩ : PutM)])).flatMap cPut) o_39 rfl (K.fl_snoc cPut (putsF c t [x0, x1, x2, x3, x4, x5, x6, x7] j) _ rfl)
      replace hS : K.Sat w0 [g_34, l_38, b7, g_5, g_2, fr] w := hS
      refine ⟨.inl (hS.pick [2, 3, 4]), ?_⟩
      refine K.b 13 rfl (.pointer (some ⟨r_17, 4, none⟩)) (hS.pick [2, 3, 4]) ?_
      refine K.DW.l 14 rfl (by kernel_rfl) rfl (K.OW.gst 2 [.slice a_36 (j + 1) cap_37] [.int .i64 c.th, .int .i64 c.sl, .int .i64 c.lo, .int .i64 c.bu, .slice a_36 (j + 1) cap_37] hS x_30 ?_)
      clear hS; intro w g_41 hg_42 hS
      replace hS : K.Sat w0 [g_34, l_38, g_41, g_5, g_2, fr] w := hS
      refine ⟨.inr (by kernel_rfl), ?_⟩
      refine K.DW.done (by kernel_rfl) ?_
      refine K.blk_normal ?_
      refine K.t (K.g (K.q [.int .i64 ((j : Nat) : Int)] ?_))
      refine K.a (K.QR.n64 ((((j : Nat) : Int) : Int) + (1 : Int)) ((j + 1 : Nat) : Int) (by kernel_rfl) (by omega)) ?_
      refine K.q [.int .i64 ((j + 1 : Nat) : Int)] (K.z (K.t ?_))
      refine ⟨_, ?_, j + 1, a_36, cap_37, g_41, l_38, rfl, ⟨by rfl, by rfl, by rfl, by rfl, by rfl, by rfl, by rfl, by rfl, by rfl, trivial⟩, (by omega), hg_42, (by rw [putsF_succ]; simpa using o_39c), hS.pick [1, 2, 3, 4, 5]⟩
      omega
     ·
      refine K.x ((((j : Nat) : Int) : Int) < (c.lo : Int)) h_32 ?_
      refine K.z (K.t (K.f ?_))
      refine K.KW.exit ?_
      refine K.thn_exit ?_
      refine K.thn_exit ?_
      refine K.blk_hit ?_
      refine K.t (K.s (K.g ?_))
      refine K.a (K.QR.ldN [.int .i64 c.th, .int .i64 c.sl, .int .i64 c.lo, .int .i64 c.bu, .slice q1 j c1] rfl rfl (by kernel_rfl) (by kernel_rfl) (K.cells (K.cl ((hS.blk 1 rfl x_30).cell rfl) (K.cl ((hS.blk 1 rfl x_30).cell rfl) (K.cl ((hS.blk 1 rfl x_30).cell rfl) (K.cl ((hS.blk 1 rfl x_30).cell rfl) (K.cl ((hS.blk 1 rfl x_30).cell rfl) K.cl0))))))) ?_
      refine K.l (K.OW.gcall hS [0] [1, 2, 3, 4] [.agg #[.int .i64 c.th, .int .i64 c.sl, .int .i64 c.lo, .int .i64 c.bu, .slice q1 j c1]] (layM_ok _ c _ _ _ (putsF c t [x0, x1, x2, x3, x4, x5, x6, x7] j) (putsF_len _ _ _ _) (fun j hj => (putsF_good (by assumption) j hj).1) (⟨by assumption, by rw [putsF_len]; omega⟩) _ (fun w h => K.RowE.len (K.Own.rowE pu0 (h.ownr 0 rfl x_31) (putsF_len _ _ _ _) (fun _ => rfl)) (putsF_len _ _ _ _))) ?_)
      clear hS; rintro _ _ w ⟨b_43, p_44, q_45, r_46, u_47, _, _, gl_48, l_49, m_50, rfl, rfl, hl_51, x_52, y_53, rfl, rfl, hf_54, hp_55⟩ hS
      replace hS : K.Sat w0 [o1, gl_48, l_49, m_50, b7, g_5, g_2, fr] w := hS
      have hI0 : FInv c (lns c).toNat t (fun i => K.orK .u64 (([x0, x1, x2, x3, x4, x5, x6, x7] : List Int).getD i 0) 1) 0 ⟨t, 0, 0, 0, 0⟩ (groundM ((lns c).toNat) (c.th.toNat) (2 + c.th + c.sl).toNat (putsF c t [x0, x1, x2, x3, x4, x5, x6, x7] j)) := FInv.start (by assumption) (by omega) (by omega) (by omega)
      have hM0 := hI0.mg
      have hcl0 := hI0.c0 (by assumption)
      generalize groundM ((lns c).toNat) (c.th.toNat) (2 + c.th + c.sl).toNat (putsF c t [x0, x1, x2, x3, x4, x5, x6, x7] j) = M0 at x_52 hI0 hM0 hcl0
      refine K.q [.tuple #[.pointer (some ⟨b_43, 0, none⟩), .pointer (some ⟨p_44, 0, none⟩), .pointer (some ⟨r_46, 0, none⟩), .bool true], .pointer (some ⟨b_43, 0, none⟩), .pointer (some ⟨p_44, 0, none⟩), .pointer (some ⟨r_46, 0, none⟩), .bool true, .pointer (some ⟨b_43, 0, none⟩), .pointer (some ⟨p_44, 0, none⟩), .pointer (some ⟨r_46, 0, none⟩), .bool true] (K.z (K.t (K.s (K.g (K.q [.pointer (some ⟨b_43, 0, none⟩), .int .i64 t] ?_)))))
      refine K.l (K.OW.gcall hS [] [0, 1, 2, 3, 4, 5, 6, 7] [.pointer (some ⟨b_43, 0, none⟩), .int .i64 t, .int .i64 0] (newre_ok _ b_43 t (0 : Int)) ?_)
      clear hS; rintro _ _ w ⟨p_56, g_57, rfl, rfl, h_58⟩ hS
      replace hS : K.Sat w0 [g_57, o1, gl_48, l_49, m_50, b7, g_5, g_2, fr] w := hS
      have hS_59 : ResS.good ⟨t, 0, (0 : Int), 0, 0⟩ := resInit (by omega) (by omega)
      refine K.q [.pointer (some ⟨p_56, 0, none⟩)] (K.z (K.t (K.s (K.g (K.q [.pointer (some ⟨p_44, 0, none⟩)] ?_)))))
      refine K.l (K.OW.gcall hS [3] [0, 1, 2, 4, 5, 6, 7, 8] [.pointer (some ⟨p_44, 0, none⟩)] (mClock_ok _ _ _ _ _ _ _ x_52 ) ?_)
      clear hS; rintro _ _ w ⟨rfl, rfl⟩ hS
      replace hS : K.Sat w0 [l_49, g_57, o1, gl_48, m_50, b7, g_5, g_2, fr] w := hS
      refine K.q [.int .i64 M0.clock] (K.z (K.t (K.s (K.s (K.g (K.q [.int .i64 0] (K.z (K.t ?_))))))))
      refine K.KW.block ?_
      refine K.KW.loop (fun m_ F_ w_ => ∃ (i : Nat) (S : ResS) (M : MemM) (g1 : K.Cs) (l1 : K.Cs), m_ = 20 - i ∧ K.Sl F_ [(0, .agg #[.int .i64 c.th, .int .i64 c.sl, .int .i64 c.lo, .int .i64 c.bu]), (1, .int .i64 t), (2, .agg #[.int .u64 x0, .int .u64 x1, .int .u64 x2, .int .u64 x3, .int .u64 x4, .int .u64 x5, .int .u64 x6, .int .u64 x7]), (3, .pointer (some ⟨r_1, 0, none⟩)), (10, .pointer (some ⟨p_44, 0, none⟩)), (12, .bool true), (13, .pointer (some ⟨p_56, 0, none⟩)), (14, .int .i64 M0.clock), (15, .int .i64 ((i : Nat) : Int)), (97, undef)] ∧ i ≤ 20 ∧ FInv c (lns c).toNat t (fun i => K.orK .u64 (([x0, x1, x2, x3, x4, x5, x6, x7] : List Int).getD i 0) 1) i S M ∧ g1 = [K.pt p_56 158 [.pointer (some ⟨b_43, 0, none⟩), .int .i64 S.t, .int .i64 S.pc, .int .i64 S.slot, .int .i64 S.next, .int .i64 S.place]] ∧ MemAt l1 p_44 q_45 ((lns c).toNat) (c.th.toNat) M ∧ K.Sat w0 [l1, g1, o1, gl_48, m_50, b7, g_5, g_2, fr] w_) ((fun (i : Nat) (S : ResS) (M : MemM) => 20 - i) 0 ⟨t, 0, 0, 0, 0⟩ M0) ?_ ?_
      ·
       exact ⟨0, ⟨t, 0, 0, 0, 0⟩, M0, g_57, l_49, rfl, ⟨by rfl, by rfl, by rfl, by rfl, by rfl, by rfl, by rfl, by rfl, by rfl, by rfl, trivial⟩, (by omega), (hI0), h_58, x_52, hS.pick [0, 1, 2, 3, 4, 5, 6, 7, 8]⟩
      ·
       clear hS
       intro m_60 F_61 w hI
       obtain ⟨i, S, M, g1, l1, rfl, sl_62, p_63, hI, x_64, x_65, hS⟩ := hI
       rw [← K.Sl.puts sl_62]; clear sl_62
       have hSg := hI.good; have hMg := hI.mg
       refine K.s (K.s (K.g (K.q [.int .i64 ((i : Nat) : Int)] ?_)))
       by_cases h_66 : (((i : Nat) : Int) : Int) < (20 : Int)
       ·
        refine K.y ((((i : Nat) : Int) : Int) < (20 : Int)) h_66 ?_
        refine K.z (K.t (K.h (K.k (K.t (K.s ?_)))))
        refine K.KW.block ?_
        refine K.s (K.g (K.q [.pointer (some ⟨p_56, 0, none⟩), .pointer (some ⟨p_44, 0, none⟩)] ?_))
        refine K.l (K.OW.gcall hS [1, 3, 0] [2, 4, 5, 6, 7, 8] [.pointer (some ⟨p_56, 0, none⟩), .pointer (some ⟨p_44, 0, none⟩)] (reStep_ok _ _ _ _ _ _ _ c (by first | assumption | (unfold cfgOk; decide)) S M _ _ _ x_64 hl_51 x_65 (by assumption) (by assumption)) ?_)
        clear hS; rintro _ _ w ⟨g_67, l_68, rfl, rfl, h_69, x_70⟩ hS
        replace hS : K.Sat w0 [g_67, gl_48, l_68, o1, m_50, b7, g_5, g_2, fr] w := hS
        obtain ⟨hS_71, hM_72⟩ := (resStep_good (by first | assumption | (unfold cfgOk; decide)) (by assumption) (by assumption) : (resStep c ((lns c).toNat) (c.th.toNat) S M).1.good ∧ (resStep c ((lns c).toNat) (c.th.toNat) S M).2.good)
        refine K.z (K.t (K.s (K.g (K.q [.pointer (some ⟨p_44, 0, none⟩)] ?_))))
        refine K.l (K.OW.gcall hS [2] [0, 1, 3, 4, 5, 6, 7, 8] [.pointer (some ⟨p_44, 0, none⟩)] (mLast_ok _ _ _ _ _ _ _ x_70 ) ?_)
        clear hS; rintro _ _ w ⟨rfl, rfl⟩ hS
        replace hS : K.Sat w0 [l_68, g_67, gl_48, o1, m_50, b7, g_5, g_2, fr] w := hS
        refine K.q [.int .i64 (((resStep c ((lns c).toNat) (c.th.toNat) S M).2).last.kind)] ?_
        refine K.xn (((resStep c ((lns c).toNat) (c.th.toNat) S M).2).last.kind : Int) (1 : Int) ((hI.next (by assumption) (by omega)).last (by omega)) ?_
        refine K.z (K.t (K.f (K.k ?_)))
        refine K.blk_normal ?_
        refine K.t (K.g (K.q [.int .i64 ((i : Nat) : Int)] ?_))
        refine K.a (K.QR.n64 ((((i : Nat) : Int) : Int) + (1 : Int)) ((i + 1 : Nat) : Int) (by kernel_rfl) (by omega)) ?_
        refine K.q [.int .i64 ((i + 1 : Nat) : Int)] (K.z (K.t ?_))
        refine ⟨_, ?_, i + 1, (resStep c ((lns c).toNat) (c.th.toNat) S M).1, ((resStep c ((lns c).toNat) (c.th.toNat) S M).2), g_67, l_68, rfl, ⟨by rfl, by rfl, by rfl, by rfl, by rfl, by rfl, by rfl, by rfl, by rfl, by rfl, trivial⟩, (by omega), (hI.next (by assumption) (by omega)), h_69, x_70, hS.pick [0, 1, 3, 2, 4, 5, 6, 7, 8]⟩
        omega
       ·
        refine K.x ((((i : Nat) : Int) : Int) < (20 : Int)) h_66 ?_
        refine K.z (K.t (K.f ?_))
        refine K.KW.exit ?_
        refine K.thn_exit ?_
        refine K.thn_exit ?_
        refine K.blk_hit ?_
        refine K.t (K.s ?_)
        have hfin := hI.done (by omega) (by omega)
        refine K.KW.gdrawn [7] hS (by kernel_rfl) ?_
        clear hS; intro w hS
        refine K.DW.l 0 rfl (by kernel_rfl) rfl (K.OW.gcall hS [] [0, 1, 2, 3, 4, 5, 6, 7, 8] [] (awake11_ok _) ?_)
        clear hS; rintro _ _ w ⟨rfl, rfl⟩ hS
        replace hS : K.Sat w0 [l1, g1, o1, gl_48, m_50, b7, g_5, g_2, fr] w := hS
        refine ⟨.inl (hS.pick [7]), ?_⟩
        refine K.b 1 rfl (.bool true) (hS.pick [7]) ?_
        refine K.b 2 rfl (.bool true) (hS.pick [7]) ?_
        refine K.b 3 rfl (.bool true) (hS.pick [7]) ?_
        refine K.b 4 rfl (.bool true) (hS.pick [7]) ?_
        refine K.b 5 rfl (.pointer (some ⟨p_56, 0, none⟩)) (hS.pick [7]) ?_
        refine K.DW.l 6 rfl (by kernel_rfl) (by kernel_rfl) (K.OW.gcall hS [1] [0, 2, 3, 4, 5, 6, 7, 8] [.pointer (some ⟨p_56, 0, none⟩)] (reDoneB_ok _ _ _ S _ x_64) ?_)
        clear hS; rintro _ _ w ⟨rfl, rfl⟩ hS
        replace hS : K.Sat w0 [g1, l1, o1, gl_48, m_50, b7, g_5, g_2, fr] w := hS
        refine ⟨.inl (hS.pick [7]), ?_⟩
        cases hb_73 : S.done
        ·cases (hb_73.symm.trans (show S.done = true from hfin.1))
        ·
         refine K.b 7 rfl (.bool true) (hS.pick [7]) ?_
         refine K.b 8 rfl (.bool true) (hS.pick [7]) ?_
         refine K.b 9 rfl (.pointer (some ⟨p_56, 0, none⟩)) (hS.pick [7]) ?_
         refine K.DW.l 10 rfl (by kernel_rfl) (by kernel_rfl) (K.OW.gcall hS [0, 3] [1, 2, 4, 5, 6, 7, 8] [.pointer (some ⟨p_56, 0, none⟩)] (rePlace_ok _ _ _ c (by first | assumption | (unfold cfgOk; decide)) S _ _ x_64 hl_51) ?_)
         clear hS; rintro _ _ w ⟨rfl, rfl⟩ hS
         replace hS : K.Sat w0 [g1, gl_48, l1, o1, m_50, b7, g_5, g_2, fr] w := hS
         refine ⟨.inl (hS.pick [7]), ?_⟩
         refine K.c 11 rfl (K.QR.nice (v := .bool (((rePlace c S) : Int) == ((-1) : Int))) (by kernel_rfl) (congrArg Value.bool (beq_iff_eq.2 (hfin.2.1)))) (hS.pick [7]) ?_
         refine K.b 12 rfl (.bool true) (hS.pick [7]) ?_
         refine K.b 13 rfl (.bool true) (hS.pick [7]) ?_
         refine K.p 14 rfl (.pointer (some ⟨p_44, 0, none⟩)) (hS.pick [7]) ?_
         refine K.p 16 rfl (.int .i64 M0.clock) (hS.pick [7]) ?_
         refine K.p 17 rfl (.pointer (some ⟨r_1, 2, none⟩)) (hS.pick [7]) ?_
         refine K.o_ 18 rfl (.int .i64 c.lo) (fun w hS => ((hS.blk 0 rfl hg_3).cell rfl)) (hS.pick [7]) ?_
         refine K.m 19 rfl (fun w hS => K.QR.n64 ((M0.clock : Int) + (c.lo : Int)) ((M0.clock : Int) + (c.lo : Int)) (by kernel_rfl) (by omega)) (hS.pick [7]) ?_
         refine K.DW.l 15 rfl (by kernel_rfl) (by kernel_rfl) (K.OW.gcall hS [2] [0, 1, 3, 4, 5, 6, 7, 8] [.pointer (some ⟨p_44, 0, none⟩)] (mClock_ok _ _ _ _ _ _ _ x_65 ) ?_)
         clear hS; rintro _ _ w ⟨rfl, rfl⟩ hS
         replace hS : K.Sat w0 [l1, g1, gl_48, o1, m_50, b7, g_5, g_2, fr] w := hS
         refine ⟨.inl (hS.pick [7]), ?_⟩
         refine K.c 20 rfl (K.QR.nice (v := .bool ((M.clock : Int) == ((M0.clock : Int) + (c.lo : Int) : Int))) (by kernel_rfl) (congrArg Value.bool (beq_iff_eq.2 (by have h := hfin.2.2; omega)))) (hS.pick [7]) ?_
         refine K.b 21 rfl (.bool true) (hS.pick [7]) ?_
         refine K.b 22 rfl (.bool true) (hS.pick [7]) ?_
         refine K.DW.done (by kernel_rfl) ?_
         refine K.t (K.r ?_)
         refine ⟨.inr rfl, rfl, (.bool true), K.res1 rfl rfl, [], ?_, hS.pick [8]⟩
         exact rfl
 ·
  replace hS : K.Sat w0 [g_5, g_2, fr] w := hS
  refine K.q [.bool true, .bool true] (K.n_ (K.n_ (K.q [.bool true, .bool true] (K.n_ (K.n_ (K.n_ (K.n_ (K.q [.bool true] (K.z (K.t (K.h (K.s (K.g ?_)))))))))))))
  refine K.l (K.OW.gcall hS [] [0, 1, 2] [] (awake11_ok _) ?_)
  clear hS; rintro _ _ w ⟨rfl, rfl⟩ hS
  replace hS : K.Sat w0 [g_5, g_2, fr] w := hS
  refine K.q [.bool true] (K.z (K.t (K.r (K.u ?_))))
  refine ⟨.inr rfl, rfl, (.bool true), K.res1 rfl rfl, [], ?_, hS.pick [2]⟩
  exact rfl
end Go.Proofs.Ytkmndplicmaahaa
