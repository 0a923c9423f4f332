import Derived.Test.YtnehocjmgnhhhaaFsm
import Derived.Test.YtnehocjmgnhhhaaKn
/- Witness: the document's Ends. -/
namespace Go.Proofs.Ytnehocjmgnhhhaa
open Go.RowKit
set_option linter.unusedVariables false
attribute [local irreducible] K.KW K.RW K.DW K.OW K.QR K.KC
set_option maxHeartbeats 16000000 in
set_option maxRecDepth 100000 in
theorem dends_ok (w0 : World) (a : Option Addr) (cap : Nat) (L : List CallM) (hm : L.length ≤ 1000000) (gx : K.Cs) (hx : ∀ w, K.Sat w0 [gx] w → K.RowE w a L.length 11 (fun i => cCall (L.getD i call0))) (q s mm : Option Addr) (cq cs cm : Nat) (S : StM) (hl2 : S.s.length ≤ 1000) (hl3 : S.m.length ≤ 1000) (g : K.Cs) (x : RdSt w0 g q s mm cq S) (hl5 : L.length ≤ 5) (hl1 : S.q.length ≤ 100) (hl2' : S.s.length ≤ 100) (hl3' : S.m.length ≤ 100) (hok : okS S) (hrr : rightH L) :
  K.GC Try.prog w0 20 #[.agg #[.slice q S.q.length cq, .slice s S.s.length cs, .slice mm S.m.length cm], .slice a L.length cap] [g, gx] (fun v post => ∃ g' go ra c Ld, post = [g', gx, go] ∧ Grow w0 g g' ∧ v = .slice ra Ld.length c ∧ K.OwnG go 30 3 ra Ld.length c (Ld.flatMap cStE) ∧ AllRd w0 g' Ld ∧ (∀ i, i < Ld.length → goodS 1000000 (Ld.getD i dStE).S) ∧ (∀ T, T ∈ stsE Ld ↔ ∃ o, goodU L (noneU L) o ∧ runN L S o = some T) ∧ Ld.length ≤ 100000000) := by
 refine K.GC.mk (n := 66) Try.func20 rfl rfl [.agg #[.slice q S.q.length cq, .slice s S.s.length cs, .slice mm S.m.length cm], .slice a L.length cap] rfl rfl ?_
 intro fr w hS
 replace hS : K.Sat w0 [g, gx, fr] w := hS
 refine K.s (K.g ?_)
 refine K.l (K.OW.gnew 30 [.slice q S.q.length cq, .slice s S.s.length cs, .slice mm S.m.length cm] hS ?_)
 clear hS; intro w r_1 g_2 hg_3 hS
 refine K.q [.slice none 0 0] (K.z (K.t (K.s (K.g (K.q [.slice none 0 0] (K.z (K.t (K.s (K.g (K.q [K.iv 1] (K.z (K.t (K.s (K.s ?_))))))))))))))
 refine K.g (K.q [K.iv 0] (K.z (K.t ?_)))
 refine K.KW.block ?_
 refine K.KW.loop (fun m_ F_ w_ => ∃ (i0 : Nat) (M : Nat), m_ = 100 - i0 ∧ K.Sl F_ [(0, .agg #[.slice q S.q.length cq, .slice s S.s.length cs, .slice mm S.m.length cm]), (1, .slice a L.length cap), (2, K.pa r_1), (4, .slice none 0 0), (5, .slice none 0 0), (6, K.iv ((M : Nat) : Int)), (7, K.iv ((i0 : Nat) : Int)), (66, undef)] ∧ i0 ≤ L.length ∧ M = 2 ^ i0 ∧ M ≤ 32 ∧ K.Sat w0 [g_2, g, gx, fr] w_) ((fun (i0 : Nat) (M : Nat) => 100 - i0) 0 1) ?_ ?_
 ·
  exact ⟨0, 1, rfl, ⟨by rfl, by rfl, by rfl, by rfl, by rfl, by rfl, by rfl, by rfl, trivial⟩, (by omega), (rfl), (by decide), hS.pick [0, 1, 2, 3]⟩
 ·
  clear hS
  intro m_4 F_5 w hI
  obtain ⟨i0, M, rfl, sl_6, p_7, hM, p_8, hS⟩ := hI
  rw [← K.Sl.puts sl_6]; clear sl_6
  refine K.s (K.s (K.g (K.q [K.iv ((i0 : Nat) : Int), .slice a L.length cap] ?_)))
  refine K.a (K.QR.len (P := Try.prog) rfl rfl Try.underlying22) ?_
  by_cases h_9 : (((i0 : Nat) : Int) : Int) < (((L.length : Nat) : Int) : Int)
  ·
   refine K.y ((((i0 : Nat) : Int) : Int) < (((L.length : Nat) : Int) : Int)) h_9 ?_
   refine K.z (K.t (K.h (K.k (K.t (K.s ?_)))))
   refine K.KW.block ?_
   refine K.g (K.q [K.iv ((M : Nat) : Int)] ?_)
   refine K.a (K.QR.n64 ((2 : Int) * (((M : Nat) : Int) : Int)) ((2 * M : Nat) : Int) (by kernel_rfl) (by omega)) ?_
   refine K.q [K.iv ((2 * M : Nat) : Int)] (K.z ?_)
   refine K.blk_normal ?_
   refine K.t (K.g (K.q [K.iv ((i0 : Nat) : Int)] ?_))
   refine K.a (K.QR.n64 ((((i0 : Nat) : Int) : Int) + (1 : Int)) ((i0 + 1 : Nat) : Int) (by kernel_rfl) (by omega)) ?_
   refine K.q [K.iv ((i0 + 1 : Nat) : Int)] (K.z (K.t ?_))
   refine ⟨_, ?_, i0 + 1, 2 * M, rfl, ⟨by rfl, by rfl, by rfl, by rfl, by rfl, by rfl, by rfl, by rfl, trivial⟩, (by omega), (by rw [hM, Nat.pow_succ, Nat.mul_comm]), (by rw [hM, Nat.mul_comm, ← Nat.pow_succ]; exact Nat.le_trans (Nat.pow_le_pow_right (by decide) (show i0 + 1 ≤ 5 by omega)) (by decide)), hS.pick [0, 1, 2, 3]⟩
   omega
  ·
   refine K.x ((((i0 : Nat) : Int) : Int) < (((L.length : Nat) : Int) : Int)) h_9 ?_
   refine K.z (K.t (K.f ?_))
   refine K.KW.exit ?_
   refine K.thn_exit ?_
   refine K.thn_exit ?_
   refine K.blk_hit ?_
   refine K.t (K.s ?_)
   have hML : i0 = L.length := by omega
   have hM32 : M ≤ 32 := by rw [hM]; exact Nat.le_trans (Nat.pow_le_pow_right (by decide) (show i0 ≤ 5 by omega)) (by decide)
   refine K.g (K.q [.slice a L.length cap] ?_)
   refine K.a (K.QR.len (P := Try.prog) rfl rfl Try.underlying22) ?_
   refine K.l (K.OW.gcall hS [] [0, 1, 2, 3] [K.iv ((L.length : Nat) : Int)] (ords_ok _ L.length (by omega)) ?_)
   clear hS; rintro _ _ w ⟨g_10, go_11, ra_12, c_13, Lo_14, rfl, rfl, o_15, hal_16, hls_17⟩ hS
   have hr_18 : ∀ w, K.Sat w0 [go_11] w → K.RowE w ra_12 Lo_14.length 1 (fun i => cInE (Lo_14.getD i dInE)) := fun w h => K.RowE.len (K.Own.rowE dInE (h.ownr 0 rfl o_15) rfl (fun _ => rfl)) rfl
   replace hS : K.Sat w0 [g_10, go_11, g_2, g, gx, fr] w := hS
   refine K.q [.slice ra_12 Lo_14.length c_13] (K.z (K.t (K.s (K.s (K.g (K.q [K.iv 0] (K.z (K.t ?_))))))))
   refine K.KW.block ?_
   obtain ⟨z_19, hz_20⟩ : ∃ z : K.Cs, z = [] := ⟨_, rfl⟩
   replace hS : K.Sat w0 [z_19, g_10, go_11, g_2, g, gx, fr] w := hS.of (by simp [hz_20])
   have o_21 : K.OwnG z_19 30 3 none 0 0 [] := by rw [hz_20]; exact K.OwnG.nil _ _
   have hless := ordN_cnt (n := L.length) (by omega)
   rw [← hls_17, lsI_len] at hless
   refine K.KW.loop (fun m_ F_ w_ => ∃ (i : Nat) (Lo : List StE) (q1 : Option Addr) (c1 : Nat) (go1 : K.Cs) (g1 : K.Cs), m_ = 1000 - i ∧ K.Sl F_ [(0, .agg #[.slice q S.q.length cq, .slice s S.s.length cs, .slice mm S.m.length cm]), (1, .slice a L.length cap), (2, K.pa r_1), (4, .slice none 0 0), (5, .slice q1 Lo.length c1), (6, K.iv ((M : Nat) : Int)), (8, .slice ra_12 Lo_14.length c_13), (9, K.iv ((i : Nat) : Int)), (66, undef)] ∧ i ≤ Lo_14.length ∧ (∀ T, T ∈ stsE Lo ↔ hitS L S (ordN L.length) M i 0 T) ∧ AllRd w0 g1 Lo ∧ (∀ q, q < Lo.length → goodS 1000000 (Lo.getD q dStE).S) ∧ Grow w0 g g1 ∧ Lo.length ≤ 32 * i ∧ K.OwnG go1 30 3 q1 Lo.length c1 ((Lo).flatMap cStE) ∧ True ∧ K.Sat w0 [go1, g_10, go_11, g_2, g1, gx, fr] w_) ((fun (i : Nat) (Lo : List StE) (q1 : Option Addr) (c1 : Nat) => 1000 - i) 0 [] none 0) ?_ ?_
   ·
    exact ⟨0, [], none, 0, z_19, g, rfl, ⟨by rfl, by rfl, by rfl, by rfl, by rfl, by rfl, by rfl, by rfl, by rfl, trivial⟩, (by omega), (hit0), (AllRd.nil), (fun i h => by simp at h), (Grow.refl w0 g), (by simp), o_21, trivial, hS.pick [0, 1, 2, 3, 4, 5, 6]⟩
   ·
    clear hS
    intro m_22 F_23 w hI
    obtain ⟨i, Lo, q1, c1, go1, g1, rfl, sl_24, p_25, hht, hal, hsz, hgr, hll, x_26, x_27, hS⟩ := hI
    rw [← K.Sl.puts sl_24]; clear sl_24
    have hxq9 := x.mono hgr
    refine K.s (K.s (K.g (K.q [K.iv ((i : Nat) : Int), .slice ra_12 Lo_14.length c_13] ?_)))
    refine K.a (K.QR.len (P := Try.prog) rfl rfl Try.underlying70) ?_
    by_cases h_28 : (((i : Nat) : Int) : Int) < (((Lo_14.length : Nat) : Int) : Int)
    ·
     refine K.y ((((i : Nat) : Int) : Int) < (((Lo_14.length : Nat) : Int) : Int)) h_28 ?_
     refine K.z (K.t (K.h (K.k (K.t (K.s ?_)))))
     refine K.KW.block ?_
     refine K.s (K.g (K.q [K.iv 0] (K.z (K.t ?_))))
     refine K.KW.block ?_
     refine K.KW.loop (fun m_ F_ w_ => ∃ (mk : Nat) (Lo : List StE) (q1 : Option Addr) (c1 : Nat) (go1 : K.Cs) (g1 : K.Cs), m_ = 1000 - mk ∧ K.Sl F_ [(0, .agg #[.slice q S.q.length cq, .slice s S.s.length cs, .slice mm S.m.length cm]), (1, .slice a L.length cap), (2, K.pa r_1), (4, .slice none 0 0), (5, .slice q1 Lo.length c1), (6, K.iv ((M : Nat) : Int)), (8, .slice ra_12 Lo_14.length c_13), (9, K.iv ((i : Nat) : Int)), (10, K.iv ((mk : Nat) : Int)), (66, undef)] ∧ mk ≤ M ∧ (∀ T, T ∈ stsE Lo ↔ hitS L S (ordN L.length) M i mk T) ∧ AllRd w0 g1 Lo ∧ (∀ q, q < Lo.length → goodS 1000000 (Lo.getD q dStE).S) ∧ Grow w0 g g1 ∧ Lo.length ≤ 32 * i + mk ∧ K.OwnG go1 30 3 q1 Lo.length c1 ((Lo).flatMap cStE) ∧ True ∧ K.Sat w0 [go1, g_10, go_11, g_2, g1, gx, fr] w_) ((fun (mk : Nat) (Lo : List StE) (q1 : Option Addr) (c1 : Nat) => 1000 - mk) 0 Lo q1 c1) ?_ ?_
     ·
      exact ⟨0, Lo, q1, c1, go1, g1, rfl, ⟨by rfl, by rfl, by rfl, by rfl, by rfl, by rfl, by rfl, by rfl, by rfl, by rfl, trivial⟩, (by omega), (hht), (hal), (hsz), (hgr), (by omega), x_26, trivial, hS.pick [0, 1, 2, 3, 4, 5, 6]⟩
     ·
      clear hS
      intro m_29 F_30 w hI
      obtain ⟨mk, Lo, q1, c1, go1, g1, rfl, sl_31, p_32, hht, hal, hsz, hgr, hll, x_33, x_34, hS⟩ := hI
      rw [← K.Sl.puts sl_31]; clear sl_31
      have hxq9 := x.mono hgr
      refine K.s (K.s (K.g (K.q [K.iv ((mk : Nat) : Int), K.iv ((M : Nat) : Int)] ?_)))
      by_cases h_35 : (((mk : Nat) : Int) : Int) < (((M : Nat) : Int) : Int)
      ·
       refine K.y ((((mk : Nat) : Int) : Int) < (((M : Nat) : Int) : Int)) h_35 ?_
       refine K.z (K.t (K.h (K.k (K.t (K.s ?_)))))
       refine K.KW.block ?_
       refine K.s ?_
       have hi9 : i < Lo_14.length := by omega
       obtain ⟨a9, c9, p9, he9⟩ : ∃ a c p, Lo_14.getD i dInE = InE.mk a c p := ⟨_, _, _, rfl⟩
       have hp9 : p9.length = L.length := by have h := ords_at hls_17 hi9; rw [he9] at h; exact h
       have hpe : (ordN L.length).getD i [] = p9 := by rw [← hls_17, lsI_get hi9, he9]
       have hpm : p9 ∈ ordN L.length := by rw [← hpe, List.getD_eq_getElem?_getD, List.getElem?_eq_getElem (by rw [← hls_17, lsI_len]; exact hi9)]; exact List.getElem_mem _
       have hpv : valP L p9 := fun q hq => ((ordN_has hpm).2 _).1 (getD_mem hq)
       have h9 : ∀ w, K.Sat w0 [g_10] w → K.RowE w a9 p9.length 1 (fun i => cI64 (p9.getD i 0)) := by have h := (hal_16 i hi9).1; rw [he9] at h; exact h
       have hc9 : p9.length ≤ c9 := by have h := (hal_16 i hi9).2; rw [he9] at h; exact h
       obtain ⟨b_36, of_37, rfl, _⟩ := (hr_18 _ (hS.pick [2])).at_ (by omega)
       refine K.g (K.q [.slice a L.length cap, .slice (some ⟨b_36, of_37, none⟩) Lo_14.length c_13, K.iv ((i : Nat) : Int)] ?_)
       refine K.a (K.QR.ix (of_37 + i * 1) 1 rfl rfl rfl Try.underlying70 (by kernel_rfl) (by omega) (by first | (simp; done) | omega | (simp; omega))) ?_
       refine K.a (K.QR.turn (v := .slice ((Lo_14.getD i dInE).a) ((Lo_14.getD i dInE).L.length) ((Lo_14.getD i dInE).c)) (v' := .slice a9 p9.length c9) (K.QR.ld1 (v := .slice ((Lo_14.getD i dInE).a) ((Lo_14.getD i dInE).L.length) ((Lo_14.getD i dInE).c)) rfl rfl (by kernel_rfl) ((hr_18 _ (hS.pick [2])).ld i (by omega) 0 _ rfl)) (by rw [he9])) ?_
       refine K.q [K.iv ((mk : Nat) : Int)] ?_
       refine K.l (K.OW.gcall hS [5, 1] [0, 2, 3, 4, 6] [.slice a L.length cap, .slice a9 p9.length c9, K.iv ((mk : Nat) : Int)] (some_ok _ _ _ _ _ L p9 mk (by omega) (by omega) (by omega) _ hx _ h9 hpv) ?_)
       clear hS; rintro _ _ w (⟨g_38, ra_39, c_40, rfl, rfl, o_41, hok_42⟩ | ⟨rfl, rfl, h_43⟩) hS
       ·
        replace hS : K.Sat w0 [gx, g_10, g_38, go1, go_11, g_2, g1, fr] w := hS
        refine K.q [.tuple #[.slice ra_39 ((filt mk p9).length) c_40, .bool true], .slice ra_39 ((filt mk p9).length) c_40, .bool true, .slice ra_39 ((filt mk p9).length) c_40, .bool true] (K.z (K.t (K.s ?_)))
        have hqle := o_41.le
        have hfl := filt_len (mask := mk) (P := p9)
        refine K.g (K.q [.bool true, .bool true, .slice a L.length cap, .slice ra_39 ((filt mk p9).length) c_40] ?_)
        refine K.l (K.OW.gcall hS [0, 2] [1, 3, 4, 5, 6, 7] [.slice a L.length cap, .slice ra_39 ((filt mk p9).length) c_40] (drsp_ok _ _ _ _ _ L (filt mk p9) (by omega) (by omega) _ hx _ (fun w h => K.RowE.len (K.Own.rowE 0 (h.ownr 0 rfl o_41) rfl (fun _ => rfl)) rfl) (by omega)) ?_)
        clear hS; rintro _ _ w ⟨rfl, (⟨h_44, rfl⟩ | ⟨h_45, rfl⟩)⟩ hS
        ·
         replace hS : K.Sat w0 [gx, g_38, g_10, go1, go_11, g_2, g1, fr] w := hS
         refine K.q [.bool true] (K.z (K.t (K.h (K.s (K.g ?_)))))
         refine K.a (K.QR.ldN [.slice q S.q.length cq, .slice s S.s.length cs, .slice mm S.m.length cm] rfl rfl (by kernel_rfl) (by kernel_rfl) (K.cells (K.cl ((hS.blk 5 rfl hg_3).cell rfl) (K.cl ((hS.blk 5 rfl hg_3).cell rfl) (K.cl ((hS.blk 5 rfl hg_3).cell rfl) K.cl0))))) ?_
         refine K.q [.slice a L.length cap, .slice ra_39 ((filt mk p9).length) c_40] ?_
         refine K.l (K.OW.gcall hS [6, 0, 1] [2, 3, 4, 5, 7] [.agg #[.slice q S.q.length cq, .slice s S.s.length cs, .slice mm S.m.length cm], .slice a L.length cap, .slice ra_39 ((filt mk p9).length) c_40] (run_ok _ _ _ _ _ L (filt mk p9) (by omega) _ hx q s mm cq cs cm S (by omega) (by omega) _ hxq9 _ (fun w h => K.RowE.len (K.Own.rowE 0 (h.ownr 0 rfl o_41) rfl (fun _ => rfl)) rfl) (by omega) (by omega) (by omega) (by omega) (by omega) hok (fun q hq => ((ordN_has hpm).2 _).1 (filt_mem.1 (getD_mem hq)).1) (right_kind hrr)) ?_)
         clear hS; rintro _ _ w ⟨g_57, rfl, hg_58, (⟨h_46, rfl⟩ | ⟨T_47, q_48, cq_49, s_50, cs_51, m_52, cm_53, h_54, hgd_55, rfl, hx_56⟩)⟩ hS
         ·
          have hr_59 := hxq9.mono hg_58
          have hr_60 := AllRd.mono hal hg_58
          replace hS : K.Sat w0 [g_57, gx, g_38, g_10, go1, go_11, g_2, fr] w := hS
          refine K.q [.tuple #[.agg #[.slice none 0 0, .slice none 0 0, .slice none 0 0], .bool false], .agg #[.slice none 0 0, .slice none 0 0, .slice none 0 0], .bool false] ?_
          refine K.l (K.OW.gnew 30 [.slice none 0 0, .slice none 0 0, .slice none 0 0] hS ?_)
          clear hS; intro w r_61 g_62 hg_63 hS
          refine K.l (K.OW.gst 0 [.slice none 0 0, .slice none 0 0, .slice none 0 0] _ hS hg_63 ?_)
          clear hS; intro w g_64 hg_65 hS
          replace hS : K.Sat w0 [g_64, g_57, gx, g_38, g_10, go1, go_11, g_2, fr] w := hS
          refine K.q [.bool false] (K.z (K.t (K.s (K.g (K.q [.bool false] (K.z (K.t (K.f (K.k ?_)))))))))
          refine K.blk_normal ?_
          refine K.t (K.g (K.q [K.iv ((mk : Nat) : Int)] ?_))
          refine K.a (K.QR.n64 ((((mk : Nat) : Int) : Int) + (1 : Int)) ((mk + 1 : Nat) : Int) (by kernel_rfl) (by omega)) ?_
          refine K.q [K.iv ((mk + 1 : Nat) : Int)] (K.z (K.t ?_))
          refine ⟨_, ?_, mk + 1, Lo, q1, c1, go1, g_57, rfl, ⟨by rfl, by rfl, by rfl, by rfl, congrArg (fun m_ => Value.slice q1 m_ c1) (by first | rfl | (rw [List.length_append]; rfl) : Lo.length = (Lo).length), by rfl, by rfl, by rfl, by rfl, by rfl, trivial⟩, (by omega), (hit_n hht (fun T hh => by rw [hpe] at hh; have h8 := hh.2.2; rw [h_46] at h8; cases h8)), (hr_60), (hsz), ((hgr.trans hg_58)), (by first | omega | (rw [List.length_append, List.length_singleton]; omega)), (K.OwnG.cast x_33 (by first | rfl | (rw [List.length_append]; rfl)) rfl), trivial, hS.pick [5, 4, 6, 7, 1, 2, 8]⟩
          omega
         ·
          have hr_66 := hxq9.mono hg_58
          have hr_67 := AllRd.mono hal hg_58
          replace hS : K.Sat w0 [g_57, gx, g_38, g_10, go1, go_11, g_2, fr] w := hS
          refine K.q [.tuple #[.agg #[.slice q_48 T_47.q.length cq_49, .slice s_50 T_47.s.length cs_51, .slice m_52 T_47.m.length cm_53], .bool true], .agg #[.slice q_48 T_47.q.length cq_49, .slice s_50 T_47.s.length cs_51, .slice m_52 T_47.m.length cm_53], .bool true] ?_
          refine K.l (K.OW.gnew 30 [.slice none 0 0, .slice none 0 0, .slice none 0 0] hS ?_)
          clear hS; intro w r_68 g_69 hg_70 hS
          refine K.l (K.OW.gst 0 [.slice q_48 T_47.q.length cq_49, .slice s_50 T_47.s.length cs_51, .slice m_52 T_47.m.length cm_53] _ hS hg_70 ?_)
          clear hS; intro w g_71 hg_72 hS
          replace hS : K.Sat w0 [g_71, g_57, gx, g_38, g_10, go1, go_11, g_2, fr] w := hS
          refine K.q [.bool true] (K.z (K.t (K.s (K.g (K.q [.bool true] (K.z (K.t (K.h (K.g (K.q [.slice q1 Lo.length c1] ?_))))))))))
          refine K.a (K.QR.ldN [.slice q_48 T_47.q.length cq_49, .slice s_50 T_47.s.length cs_51, .slice m_52 T_47.m.length cm_53] rfl rfl (by kernel_rfl) (by kernel_rfl) (K.cells (K.cl ((hS.blk 0 rfl hg_72).cell rfl) (K.cl ((hS.blk 0 rfl hg_72).cell rfl) (K.cl ((hS.blk 0 rfl hg_72).cell rfl) K.cl0))))) ?_
          refine K.l (K.OW.gbs [(0, .agg #[.slice q_48 T_47.q.length cq_49, .slice s_50 T_47.s.length cs_51, .slice m_52 T_47.m.length cm_53])] [.slice q_48 T_47.q.length cq_49, .slice s_50 T_47.s.length cs_51, .slice m_52 T_47.m.length cm_53] hS (fun w => K.bs_run (P := Try.prog) w 42 30 1 _ _ Try.underlying42 (by kernel_rfl)) ?_)
          clear hS; intro w r_73 g_74 hg_75 hS
          refine K.l (K.OW.gapp (P := Try.prog) (xs := (Lo).flatMap cStE) (z := .agg #[.slice none 0 0, .slice none 0 0, .slice none 0 0]) (size := 3) (bytes := 72) 6 [.slice q_48 T_47.q.length cq_49, .slice s_50 T_47.s.length cs_51, .slice m_52 T_47.m.length cm_53] hS x_33 ?_ (fun j u hj => (by rw [Nat.zero_add]; exact (hS.blk 0 rfl hg_75).cell hj)) (K.one_cells (by rfl)) (by rfl) Try.underlying42 (by kernel_rfl) rfl (by decide) (by unfold maxLen; omega) (by omega))
          clear hS; intro a_76 cap_77 w l_78 o_79 hS
          have ln_80 : ((Lo ++ [(⟨q_48, cq_49, s_50, cs_51, m_52, cm_53, T_47⟩ : StE)])).length = Lo.length + 1 := by rw [List.length_append]; rfl
          have o_79c := K.OwnG.cast (xs' := ((Lo ++ [(⟨q_48, cq_49, s_50, cs_51, m_52, cm_53, T_47⟩ : StE)])).flatMap cStE) o_79 rfl (K.fl_snoc cStE Lo (⟨q_48, cq_49, s_50, cs_51, m_52, cm_53, T_47⟩ : StE) rfl)
          replace hS : K.Sat w0 [g_74, g_71, g_57, gx, g_38, g_10, l_78, go_11, g_2, fr] w := hS
          refine K.q [.slice a_76 (Lo.length + 1) cap_77] (K.z ?_)
          refine K.blk_normal ?_
          refine K.t (K.g (K.q [K.iv ((mk : Nat) : Int)] ?_))
          refine K.a (K.QR.n64 ((((mk : Nat) : Int) : Int) + (1 : Int)) ((mk + 1 : Nat) : Int) (by kernel_rfl) (by omega)) ?_
          refine K.q [K.iv ((mk + 1 : Nat) : Int)] (K.z (K.t ?_))
          refine ⟨_, ?_, mk + 1, (Lo ++ [(⟨q_48, cq_49, s_50, cs_51, m_52, cm_53, T_47⟩ : StE)]), a_76, cap_77, l_78, g_57, rfl, ⟨by rfl, by rfl, by rfl, by rfl, congrArg (fun m_ => Value.slice a_76 m_ cap_77) (by first | rfl | (rw [List.length_append]; rfl) : Lo.length + 1 = ((Lo ++ [(⟨q_48, cq_49, s_50, cs_51, m_52, cm_53, T_47⟩ : StE)])).length), by rfl, by rfl, by rfl, by rfl, by rfl, trivial⟩, (by omega), (by rw [stsE_snoc]; exact hit_y hht (by omega) (by rw [hpe]; exact ⟨hok_42, h_44, h_54⟩)), (AllRd.snoc hr_67 hx_56), (sz_snoc hsz (hgd_55.le (by decide))), ((hgr.trans hg_58)), (by first | omega | (rw [List.length_append, List.length_singleton]; omega)), (K.OwnG.cast o_79c (by first | rfl | (rw [List.length_append]; rfl)) rfl), trivial, hS.pick [6, 5, 7, 8, 2, 3, 9]⟩
          omega
        ·
         replace hS : K.Sat w0 [gx, g_38, g_10, go1, go_11, g_2, g1, fr] w := hS
         refine K.q [.bool false] (K.z (K.t (K.f (K.k ?_))))
         refine K.blk_normal ?_
         refine K.t (K.g (K.q [K.iv ((mk : Nat) : Int)] ?_))
         refine K.a (K.QR.n64 ((((mk : Nat) : Int) : Int) + (1 : Int)) ((mk + 1 : Nat) : Int) (by kernel_rfl) (by omega)) ?_
         refine K.q [K.iv ((mk + 1 : Nat) : Int)] (K.z (K.t ?_))
         refine ⟨_, ?_, mk + 1, Lo, q1, c1, go1, g1, rfl, ⟨by rfl, by rfl, by rfl, by rfl, congrArg (fun m_ => Value.slice q1 m_ c1) (by first | rfl | (rw [List.length_append]; rfl) : Lo.length = (Lo).length), by rfl, by rfl, by rfl, by rfl, by rfl, trivial⟩, (by omega), (hit_n hht (fun T hh => h_45 (by rw [hpe] at hh; exact hh.2.1))), (hal), (hsz), (hgr), (by first | omega | (rw [List.length_append, List.length_singleton]; omega)), (K.OwnG.cast x_33 (by first | rfl | (rw [List.length_append]; rfl)) rfl), trivial, hS.pick [3, 2, 4, 5, 6, 0, 7]⟩
         omega
       ·
        replace hS : K.Sat w0 [gx, g_10, go1, go_11, g_2, g1, fr] w := hS
        refine K.q [.tuple #[.slice none 0 0, .bool false], .slice none 0 0, .bool false, .slice none 0 0, .bool false] (K.z (K.t (K.s (K.g (K.q [.bool false, .bool false] (K.n_ (K.n_ (K.n_ (K.q [.bool false] (K.z (K.t (K.f (K.k ?_)))))))))))))
        refine K.blk_normal ?_
        refine K.t (K.g (K.q [K.iv ((mk : Nat) : Int)] ?_))
        refine K.a (K.QR.n64 ((((mk : Nat) : Int) : Int) + (1 : Int)) ((mk + 1 : Nat) : Int) (by kernel_rfl) (by omega)) ?_
        refine K.q [K.iv ((mk + 1 : Nat) : Int)] (K.z (K.t ?_))
        refine ⟨_, ?_, mk + 1, Lo, q1, c1, go1, g1, rfl, ⟨by rfl, by rfl, by rfl, by rfl, congrArg (fun m_ => Value.slice q1 m_ c1) (by first | rfl | (rw [List.length_append]; rfl) : Lo.length = (Lo).length), by rfl, by rfl, by rfl, by rfl, by rfl, trivial⟩, (by omega), (hit_n hht (fun T hh => h_43 (by rw [hpe] at hh; exact hh.1))), (hal), (hsz), (hgr), (by first | omega | (rw [List.length_append, List.length_singleton]; omega)), (K.OwnG.cast x_33 (by first | rfl | (rw [List.length_append]; rfl)) rfl), trivial, hS.pick [2, 1, 3, 4, 5, 0, 6]⟩
        omega
      ·
       refine K.x ((((mk : Nat) : Int) : Int) < (((M : Nat) : Int) : Int)) h_35 ?_
       refine K.z (K.t (K.f ?_))
       refine K.KW.exit ?_
       refine K.thn_exit ?_
       refine K.thn_exit ?_
       refine K.blk_hit ?_
       refine K.blk_normal ?_
       refine K.t (K.g (K.q [K.iv ((i : Nat) : Int)] ?_))
       refine K.a (K.QR.n64 ((((i : Nat) : Int) : Int) + (1 : Int)) ((i + 1 : Nat) : Int) (by kernel_rfl) (by omega)) ?_
       refine K.q [K.iv ((i + 1 : Nat) : Int)] (K.z (K.t ?_))
       refine ⟨_, ?_, i + 1, Lo, q1, c1, go1, g1, rfl, ⟨by rfl, by rfl, by rfl, by rfl, by rfl, by rfl, by rfl, by rfl, by rfl, trivial⟩, (by omega), (hit_row hht (by omega)), (hal), (hsz), (hgr), (by omega), (K.OwnG.cast x_33 (by first | rfl | (rw [List.length_append]; rfl)) rfl), trivial, hS.pick [0, 1, 2, 3, 4, 5, 6]⟩
       omega
    ·
     refine K.x ((((i : Nat) : Int) : Int) < (((Lo_14.length : Nat) : Int) : Int)) h_28 ?_
     refine K.z (K.t (K.f ?_))
     refine K.KW.exit ?_
     refine K.thn_exit ?_
     refine K.thn_exit ?_
     refine K.blk_hit ?_
     refine K.t (K.s (K.g (K.q [.slice q1 Lo.length c1, .slice q1 Lo.length c1] (K.z (K.t (K.r ?_))))))
     refine ⟨.inr rfl, rfl, (.slice q1 Lo.length c1), K.res1 rfl rfl, [g1, gx, go1], ?_, hS.pick [4, 5, 0, 6]⟩
     have hie : i = (ordN L.length).length := by rw [← hls_17, lsI_len]; omega
     exact ⟨_, _, _, _, Lo, rfl, hgr, rfl, x_26, hal, hsz, fun T => by rw [hht T, hie, hM, hML]; exact hit_good hrr, by omega⟩
end Go.Proofs.Ytnehocjmgnhhhaa
