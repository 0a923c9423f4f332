import Derived.Test.YtnehocjmgnhhhaaFse
import Derived.Test.YtnehocjmgnhhhaaKn
/- Witness: Ends. -/
namespace Go.Proofs.Ytnehocjmgnhhhaa
open Go.RowKit
set_option linter.unusedVariables false
attribute [local irreducible] K.KW K.RW K.DW K.OW K.QR K.KC
def bndE : Nat → Nat
 | 0 => 0
 | f + 1 => 8 * bndE f + 1
theorem flat_le {β : Type} (f : Nat → List β) (b : Nat) : ∀ n : Nat, (∀ i, i < n → (f i).length ≤ b) → ((List.range n).flatMap f).length ≤ n * b
 | 0, _ => by simp
 | n + 1, h => by
  rw [List.range_succ, List.flatMap_append, List.length_append, Nat.succ_mul]
  have h1 := flat_le f b n fun i hi => h i (by omega)
  have h2 := h n (by omega)
  have h3 : ([n].flatMap f).length = (f n).length := by simp
  omega
theorem ends_len {L : List CallM} (hl : L.length ≤ 8) : ∀ (f : Nat) (S : StM) (U : List Bool), (endsN L f S U).length ≤ bndE f
 | 0, _, _ => by simp [endsN, bndE]
 | f + 1, S, U => by
  show (_ ++ _ : List StM).length ≤ 8 * bndE f + 1
  rw [List.length_append]
  have h1 := flat_le (fun i => if goS L S U i then endsN L f (nxtT S (L.getD i call0)).1 (U.set i true) else []) (bndE f) L.length fun i _ => by
   split
   ·exact ends_len hl f _ _
   ·simp
  have h2 : (if overS L U then [S] else []).length ≤ 1 := by split <;> simp
  have h3 := Nat.mul_le_mul_right (bndE f) hl
  omega
theorem bndE_le : ∀ {f : Nat}, f ≤ 9 → bndE f ≤ 19173961 := fun {f} h => by
 have : ∀ f : Nat, f < 10 → bndE f ≤ 19173961 := by decide
 exact this f (by omega)
theorem sz_snoc {L : List StE} {e : StE} {k : Nat} (h : ∀ i, i < L.length → goodS k (L.getD i dStE).S) (he : goodS k e.S) : ∀ i, i < (L ++ [e]).length → goodS k ((L ++ [e]).getD i dStE).S := fun i hi => by
 rw [List.length_append, List.length_singleton] at hi
 by_cases hc : i < L.length
 ·rw [getD_app1 hc]; exact h i hc
 ·obtain rfl : i = L.length := by omega
  rw [getD_app2]; exact he
set_option maxHeartbeats 8000000 in
set_option maxRecDepth 100000 in
theorem wends_ok (w0 : World) (a : Option Addr) (cap : Nat) (L : List CallM) (hm : L.length ≤ 1000000) (gx : K.Cs) (hx : ∀ w, K.Sat w0 [gx] w → K.RowE w a L.length 11 (fun i => cCall (L.getD i call0))) (q s mm : Option Addr) (cq cs cm : Nat) (S : StM) (hl2 : S.s.length ≤ 1000) (hl3 : S.m.length ≤ 1000) (g : K.Cs) (x : RdSt w0 g q s mm cq S) (hl1 : S.q.length ≤ 100) (hl2' : S.s.length ≤ 100) (hl3' : S.m.length ≤ 100) :
  K.GC Try.prog w0 19 #[.agg #[.slice q S.q.length cq, .slice s S.s.length cs, .slice mm S.m.length cm], .slice a L.length cap] [g, gx] (fun v post => ((¬ okS S ∨ ¬ rightH L ∨ 8 < L.length) ∧ post = [g, gx] ∧ v = .slice none 0 0) ∨ (okS S ∧ rightH L ∧ L.length ≤ 8 ∧ ∃ g' go ra c Lr, post = [g', gx, go] ∧ Grow w0 g g' ∧ v = .slice ra Lr.length c ∧ K.OwnG go 30 3 ra Lr.length c (Lr.flatMap cStE) ∧ AllRd w0 g' Lr ∧ (∀ i, i < Lr.length → goodS 1000000 (Lr.getD i dStE).S) ∧ stsE Lr = dedN (endsN L ((List.replicate L.length false).count false + 1) S (List.replicate L.length false)) ∧ Lr.length ≤ 100000000)) := by
 refine K.GC.mkD (n := 28) Try.func19 rfl rfl [.agg #[.slice q S.q.length cq, .slice s S.s.length cs, .slice mm S.m.length cm], .slice a L.length cap] rfl rfl ?_
 intro fr w hS
 replace hS : K.Sat w0 [g, gx, fr] w := hS
 refine K.s (K.g ?_)
 refine K.l (K.OW.gnew 30 [.slice q S.q.length cq, .slice s S.s.length cs, .slice mm S.m.length cm] hS ?_)
 clear hS; intro w r_1 g_2 hg_3 hS
 refine K.q [.slice none 0 0] (K.z (K.t (K.s (K.g ?_))))
 refine K.a (K.QR.ldN [.slice q S.q.length cq, .slice s S.s.length cs, .slice mm S.m.length cm] rfl rfl (by kernel_rfl) (by kernel_rfl) (K.cells (K.cl ((hS.blk 0 rfl hg_3).cell rfl) (K.cl ((hS.blk 0 rfl hg_3).cell rfl) (K.cl ((hS.blk 0 rfl hg_3).cell rfl) K.cl0))))) ?_
 refine K.q [.slice a L.length cap] ?_
 refine K.l (K.OW.gcall hS [1, 2] [0, 3] [.agg #[.slice q S.q.length cq, .slice s S.s.length cs, .slice mm S.m.length cm], .slice a L.length cap] (orders_ok _ _ _ L (by omega) _ hx q s mm cq cs cm S (by omega) (by omega) _ x) ?_)
 clear hS; rintro _ _ w (⟨h_4, rfl, rfl⟩ | ⟨h_5, h2_6, rfl, rfl⟩ | ⟨h_7, h2_8, h3_9, rfl, rfl⟩ | ⟨h_10, h2_11, h3_12, b1_13, b2_14, bx_15, bu_16, g1_17, g2_18, gb_19, gu_20, cu_21, rfl, rfl, y1_22, y2_23, y3_24, y4_25⟩) hS
 ·
  replace hS : K.Sat w0 [g, gx, g_2, fr] w := hS
  refine K.q [.tuple #[.nilFunc, K.iv 1], .nilFunc, K.iv 1, .nilFunc, K.iv 1] (K.z (K.t (K.s (K.s (K.g (K.q [K.iv 1, .bool true] (K.z (K.t (K.h (K.s (K.g (K.q [.slice none 0 0] (K.z (K.t ?_))))))))))))))
  refine K.r (K.u ?_)
  refine ⟨.inr rfl, .inl ⟨rfl, ?_⟩⟩
  refine ⟨(.slice none 0 0), K.res1 rfl rfl, [g, gx], ?_, hS.pick [0, 1, 3]⟩
  exact .inl ⟨.inl h_4, rfl, rfl⟩
 ·
  replace hS : K.Sat w0 [g, gx, g_2, fr] w := hS
  refine K.q [.tuple #[.nilFunc, K.iv 3], .nilFunc, K.iv 3, .nilFunc, K.iv 3] (K.z (K.t (K.s (K.s (K.g (K.q [K.iv 3, .bool true] (K.z (K.t (K.h (K.s (K.g (K.q [.slice none 0 0] (K.z (K.t ?_))))))))))))))
  refine K.r (K.u ?_)
  refine ⟨.inr rfl, .inl ⟨rfl, ?_⟩⟩
  refine ⟨(.slice none 0 0), K.res1 rfl rfl, [g, gx], ?_, hS.pick [0, 1, 3]⟩
  exact .inl ⟨.inr (.inl h2_6), rfl, rfl⟩
 ·
  replace hS : K.Sat w0 [g, gx, g_2, fr] w := hS
  refine K.q [.tuple #[.nilFunc, K.iv 2], .nilFunc, K.iv 2, .nilFunc, K.iv 2] (K.z (K.t (K.s (K.s (K.g (K.q [K.iv 2, .bool true] (K.z (K.t (K.h (K.s (K.g (K.q [.slice none 0 0] (K.z (K.t ?_))))))))))))))
  refine K.r (K.u ?_)
  refine ⟨.inr rfl, .inl ⟨rfl, ?_⟩⟩
  refine ⟨(.slice none 0 0), K.res1 rfl rfl, [g, gx], ?_, hS.pick [0, 1, 3]⟩
  exact .inl ⟨.inr (.inr h3_9), rfl, rfl⟩
 ·
  replace hS : K.Sat w0 [g, gx, g1_17, g2_18, gb_19, gu_20, g_2, fr] w := hS
  refine K.q [.tuple #[.func (.func 64) [].toArray [K.pa b1_13, K.pa b2_14].toArray, K.iv 0], .func (.func 64) [].toArray [K.pa b1_13, K.pa b2_14].toArray, K.iv 0, .func (.func 64) [].toArray [K.pa b1_13, K.pa b2_14].toArray, K.iv 0] (K.z (K.t (K.s (K.s (K.g (K.q [K.iv 0, .bool false] (K.z (K.t (K.f (K.k (K.t (K.s (K.g ?_)))))))))))))
  refine K.l (K.OW.gnew 42 [.slice none 0 0] hS ?_)
  clear hS; intro w r_26 g_27 hg_28 hS
  refine K.z (K.t (K.s (K.s (K.g (K.q [.func (.func 64) [].toArray [K.pa b1_13, K.pa b2_14].toArray] (K.z (K.t ?_)))))))
  refine K.KW.block ?_
  obtain ⟨z_29, hz_30⟩ : ∃ z : K.Cs, z = [] := ⟨_, rfl⟩
  replace hS : K.Sat w0 [z_29, g_27, g, gx, g1_17, g2_18, gb_19, gu_20, g_2, fr] w := hS.of (by simp [hz_30])
  have o_31 : K.OwnG z_29 30 3 none 0 0 [] := by rw [hz_30]; exact K.OwnG.nil _ _
  have hDl : (endsN L ((List.replicate L.length false).count false + 1) S (List.replicate L.length false)).length ≤ 19173961 := Nat.le_trans (ends_len h3_12 _ _ _) (bndE_le (by rw [rep_count]; omega))
  have hok := h_10
  refine K.KW.grange (first := []) (cap := [K.pa b1_13, K.pa b2_14]) hS rfl (by kernel_rfl) rfl ?_
  clear hS; intro fid_32 w rd_33 lp_34 gd_35 gl_36 hgd_37 hgl_38 hS
  generalize hrec_40 : K.mkLoop _ _ _ _ _ _ _ = rec_39 at hgl_38
  subst hgl_38
  replace hS : K.Sat w0 [g1_17, g2_18, gb_19, gu_20, gx, g, [[(lp_34, Obj.loop rec_39)], gd_35, z_29, g_27, g_2, fr].flatten] w := (hS.pick [6, 7, 8, 9, 5, 4, 0, 1, 2, 3, 10, 11]).of
  have hY : YldS Try.prog w0 lp_34 (endsN L ((List.replicate L.length false).count false + 1) S (List.replicate L.length false)) (fun (d : List StM) (g m : K.Cs) => ∃ (Lr : List StE) (q1 : Option Addr) (c1 : Nat) (go1 : K.Cs) (gt1 : K.Cs), (stsE Lr = dedN d) ∧ (AllRd w0 g Lr) ∧ (∀ i, i < Lr.length → goodS 1000000 (Lr.getD i dStE).S) ∧ (Lr.length ≤ d.length) ∧ (K.OwnG go1 30 3 q1 Lr.length c1 ((Lr).flatMap cStE)) ∧ (gt1 = [K.pt r_26 42 [.slice q1 Lr.length c1]]) ∧ m = [[(lp_34, Obj.loop rec_39)], gd_35, go1, gt1, g_2, fr].flatten) (fun (g m : K.Cs) => (False) ∧ m = [[(lp_34, Obj.loop { rec_39 with state := .done, pending := some .ret })], gd_35, z_29, g_27, g_2, fr].flatten) := by
   clear hS; intro d g0 m0 q0 s0 mm0 cq0 cs0 cm0 S0 hJ_42 hx0 hg0 hp0 fr_41 w hS
   obtain ⟨Lr, q1, c1, go1, gt1, hsd, hal, hsz, hld, h_47, h_48, rfl⟩ := hJ_42
   replace hS : K.Sat w0 [g0, [(lp_34, Obj.loop rec_39)], gd_35, go1, gt1, g_2, fr, fr_41] w := hS.of (by simp [K.pick, K.nth])
   obtain ⟨gl_49, hgl_50⟩ : ∃ g : K.Cs, g = [(lp_34, Obj.loop rec_39)] := ⟨_, rfl⟩
   replace hS : K.Sat w0 [g0, gl_49, gd_35, go1, gt1, g_2, fr, fr_41] w := by rw [hgl_50]; exact hS
   subst hrec_40
   refine K.YS.ground (n := 28) (ps := [18]) 1 hS rfl hgl_50 rfl rfl rfl rfl rfl ?_
   refine K.g ?_
   refine K.l (K.OW.gnew 30 [.slice none 0 0, .slice none 0 0, .slice none 0 0] hS ?_)
   clear hS; intro w r_51 g_52 hg_53 hS
   refine K.l (K.OW.gst 0 [.slice q0 S0.q.length cq0, .slice s0 S0.s.length cs0, .slice mm0 S0.m.length cm0] _ hS hg_53 ?_)
   clear hS; intro w g_54 hg_55 hS
   replace hS : K.Sat w0 [g_54, g0, gl_49, gd_35, go1, gt1, g_2, fr, fr_41] w := hS
   refine K.z ?_
   refine K.rb_g 2 hS rfl hgl_50 rfl ?_
   clear hS; intro w gl_56 hgl_57 hS
   replace hS : K.Sat w0 [g_54, g0, gl_56, gd_35, go1, gt1, g_2, fr, fr_41] w := hS
   refine K.KW.block ?_
   refine K.s ?_
   have hdl := hp0.length_le
   rw [List.length_append, List.length_singleton] at hdl
   refine K.g ?_
   refine K.d (.slice q1 Lr.length c1) ((hS.blk 5 rfl h_48).cell rfl) ?_
   refine K.a (K.QR.fn [] [K.pa r_51] rfl rfl rfl) ?_
   refine K.l (K.OW.gcall hS [4, 0, 1] [2, 3, 5, 6, 7, 8] [.slice q1 Lr.length c1, .func (.func 36) [].toArray [K.pa r_51].toArray] (hasst_ok _ q1 c1 Lr (by omega) _ (fun w h => K.RowE.len (K.Own.rowE dStE (h.ownr 0 rfl h_47) rfl (fun _ => rfl)) rfl) r_51 _ _ q0 s0 mm0 cq0 cs0 cm0 S0 hg_55 hal hx0 hsz) ?_)
   clear hS; rintro _ _ w ⟨rfl, (⟨h_58, rfl⟩ | ⟨h_59, rfl⟩)⟩ hS
   ·
    replace hS : K.Sat w0 [go1, g_54, g0, gl_56, gd_35, gt1, g_2, fr, fr_41] w := hS
    refine K.q [.bool false] (K.z (K.t (K.f (K.k ?_))))
    refine K.blk_normal ?_
    refine K.rq_normal_g 3 hS rfl hgl_57 ?_
    clear hS; intro w gl_60 hgl_61 hS
    replace hS : K.Sat w0 [go1, g_54, g0, gl_60, gd_35, gt1, g_2, fr, fr_41] w := hS
    refine ⟨_, rfl, [g0, [gl_60, gd_35, go1, gt1, g_2, fr].flatten].flatten, .inl ⟨rfl, _, rfl, Lr, q1, c1, go1, gt1, (dedN_y hsd h_58), (hal), (hsz), (by simp only [List.length_append, List.length_singleton]; omega), (K.OwnG.cast h_47 (by first | rfl | (rw [List.length_append]; rfl)) rfl), (by first | exact h_48 | (rw [List.length_append]; exact h_48)), by subst hgl_61; rfl⟩, (hS.pick [2, 3, 4, 0, 5, 6, 7, 8]).of (by simp [K.pick, K.nth])⟩
   ·
    replace hS : K.Sat w0 [go1, g_54, g0, gl_56, gd_35, gt1, g_2, fr, fr_41] w := hS
    refine K.q [.bool true] (K.z (K.t (K.h (K.g ?_))))
    refine K.d (.slice q1 Lr.length c1) ((hS.blk 5 rfl h_48).cell rfl) ?_
    refine K.a (K.QR.ldN [.slice q0 S0.q.length cq0, .slice s0 S0.s.length cs0, .slice mm0 S0.m.length cm0] rfl rfl (by kernel_rfl) (by kernel_rfl) (K.cells (K.cl ((hS.blk 1 rfl hg_55).cell rfl) (K.cl ((hS.blk 1 rfl hg_55).cell rfl) (K.cl ((hS.blk 1 rfl hg_55).cell rfl) K.cl0))))) ?_
    refine K.l (K.OW.gbs [(0, .agg #[.slice q0 S0.q.length cq0, .slice s0 S0.s.length cs0, .slice mm0 S0.m.length cm0])] [.slice q0 S0.q.length cq0, .slice s0 S0.s.length cs0, .slice mm0 S0.m.length cm0] hS (fun w => K.bs_run (P := Try.prog) w 42 30 1 _ _ Try.underlying42 (by kernel_rfl)) ?_)
    clear hS; intro w r_62 g_63 hg_64 hS
    refine K.l (K.OW.gapp (P := Try.prog) (xs := (Lr).flatMap cStE) (z := .agg #[.slice none 0 0, .slice none 0 0, .slice none 0 0]) (size := 3) (bytes := 72) 1 [.slice q0 S0.q.length cq0, .slice s0 S0.s.length cs0, .slice mm0 S0.m.length cm0] hS h_47 ?_ (fun j u hj => (by rw [Nat.zero_add]; exact (hS.blk 0 rfl hg_64).cell hj)) (K.one_cells (by rfl)) (by rfl) Try.underlying42 (by kernel_rfl) rfl (by decide) (by unfold maxLen; omega) (by omega))
    clear hS; intro a_65 cap_66 w l_67 o_68 hS
    have ln_69 : ((Lr ++ [(⟨q0, cq0, s0, cs0, mm0, cm0, S0⟩ : StE)])).length = Lr.length + 1 := by rw [List.length_append]; rfl
    have o_68c := K.OwnG.cast (xs' := ((Lr ++ [(⟨q0, cq0, s0, cs0, mm0, cm0, S0⟩ : StE)])).flatMap cStE) o_68 rfl (K.fl_snoc cStE Lr (⟨q0, cq0, s0, cs0, mm0, cm0, S0⟩ : StE) rfl)
    replace hS : K.Sat w0 [g_63, l_67, g_54, g0, gl_56, gd_35, gt1, g_2, fr, fr_41] w := hS
    refine K.l (K.OW.gst 6 [.slice a_65 (Lr.length + 1) cap_66] _ hS h_48 ?_)
    clear hS; intro w g_70 hg_71 hS
    replace hS : K.Sat w0 [g_63, l_67, g_54, g0, gl_56, gd_35, g_70, g_2, fr, fr_41] w := hS
    refine K.z ?_
    refine K.blk_normal ?_
    refine K.rq_normal_g 4 hS rfl hgl_57 ?_
    clear hS; intro w gl_72 hgl_73 hS
    replace hS : K.Sat w0 [g_63, l_67, g_54, g0, gl_72, gd_35, g_70, g_2, fr, fr_41] w := hS
    refine ⟨_, rfl, [g0, [gl_72, gd_35, l_67, g_70, g_2, fr].flatten].flatten, .inl ⟨rfl, _, rfl, (Lr ++ [(⟨q0, cq0, s0, cs0, mm0, cm0, S0⟩ : StE)]), a_65, cap_66, l_67, g_70, (dedN_n hsd h_59), (hal.snoc hx0), (sz_snoc hsz hg0), (by simp only [List.length_append, List.length_singleton]; omega), (K.OwnG.cast o_68c (by first | rfl | (rw [List.length_append]; rfl)) rfl), (by first | exact hg_71 | (rw [List.length_append]; exact hg_71)), by subst hgl_73; rfl⟩, (hS.pick [3, 4, 5, 1, 6, 7, 8, 9]).of (by simp [K.pick, K.nth])⟩
  refine K.KC.ofG hS [0, 1, 2, 3, 4, 5, 6] [] (ends1_ok _ _ _ _ _ _ y1_22 _ _ _ _ _ _ L (List.replicate L.length false) hm (by simp) y3_24 y4_25 _ hx lp_34 _ _ (fun _ _ _ _ ⟨Lr, q1, c1, o1, t1, h1, h2, h3⟩ hg => ⟨Lr, q1, c1, o1, t1, h1, h2.mono hg, h3⟩) (fun _ _ _ h _ => h) _ hY _ _ [] (⟨[], none, 0, z_29, g_27, rfl, AllRd.nil, (fun i h => by simp at h), (by simp), (o_31), (hg_28), rfl⟩) q s mm cq cs cm S 100 x ⟨hl1, hl2', hl3', hok⟩ (by rw [rep_count]; omega) (by rw [List.nil_append]; exact List.prefix_rfl) y2_23) ?_
  clear hS; rintro _ _ w ⟨gu_74, g_75, m_76, rfl, hgr_77, hv_78⟩ hS
  rcases hv_78 with hv_78 | hv_78
  ·
   obtain ⟨Lr, q1, c1, go1, gt1, hsd, hal, hsz, hld, h_83, h_84, rfl⟩ := hv_78
   replace hS : K.Sat w0 [g1_17, g2_18, gb_19, gu_74, gx, g_75, [(lp_34, Obj.loop rec_39)], gd_35, go1, gt1, g_2, fr] w := hS.of (by simp [K.pick, K.nth])
   obtain ⟨gl_85, hgl_86⟩ : ∃ g : K.Cs, g = [(lp_34, Obj.loop rec_39)] := ⟨_, rfl⟩
   replace hS : K.Sat w0 [g1_17, g2_18, gb_19, gu_74, gx, g_75, gl_85, gd_35, go1, gt1, g_2, fr] w := by rw [hgl_86]; exact hS
   subst hrec_40
   refine K.gafter 6 [0, 1, 2, 3, 4, 5, 7, 8, 9, 10, 11] hS rfl hgl_86 (fun h => by cases h) ?_
   clear hS; intro w hS
   replace hS : K.Sat w0 [g1_17, g2_18, gb_19, gu_74, gx, g_75, gd_35, go1, gt1, g_2, fr] w := hS
   refine K.afterR_none rfl ?_
   refine K.blk_normal ?_
   refine K.t (K.s (K.g ?_))
   refine K.d (.slice q1 Lr.length c1) ((hS.blk 8 rfl h_84).cell rfl) ?_
   refine K.q [.slice q1 Lr.length c1] (K.z (K.t (K.r ?_)))
   refine ⟨.inr rfl, .inr ⟨_, rfl, K.endD 6 [0, 1, 2, 3, 4, 5, 7, 8, 9, 10] hS rfl hgd_37 ?_⟩⟩
   clear hS; intro w hS
   replace hS : K.Sat w0 [g1_17, g2_18, gb_19, gu_74, gx, g_75, go1, gt1, g_2, fr] w := hS
   refine ⟨(.slice q1 Lr.length c1), K.res1 rfl rfl, [g_75, gx, go1], ?_, hS.pick [5, 4, 6, 9]⟩
   exact .inr ⟨h_10, h2_11, h3_12, _, _, _, _, Lr, rfl, hgr_77, rfl, h_83, hal, hsz, hsd, Nat.le_trans (Nat.le_trans hld hDl) (by decide)⟩
  ·
   exact hv_78.1.elim
end Go.Proofs.Ytnehocjmgnhhhaa
