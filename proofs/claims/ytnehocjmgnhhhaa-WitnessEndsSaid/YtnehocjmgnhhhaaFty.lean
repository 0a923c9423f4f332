import Derived.Test.YtnehocjmgnhhhaaKe
import Derived.Test.YtnehocjmgnhhhaaKn
/- Witness: the search: try. -/
namespace Go.Proofs.Ytnehocjmgnhhhaa
open Go.RowKit
set_option linter.unusedVariables false
attribute [local irreducible] K.KW K.RW K.DW K.OW K.QR K.KC
set_option maxHeartbeats 16000000 in
set_option maxRecDepth 100000 in
theorem try_step (w0 : World) (bx : Nat) (gb gu : K.Cs) (a bu : Option Addr) (cap cu : Nat) (L : List CallM) (U : List Bool) (hm : L.length ≤ 1000000) (hU : U.length = L.length) (hgb : gb = [K.pt bx 85 [.slice a L.length cap, .slice bu L.length cu]]) (hu : K.OwnG gu 4 1 bu L.length cu (U.flatMap cBool)) (gx : K.Cs) (hx : ∀ w, K.Sat w0 [gx] w → K.RowE w a L.length 11 (fun i => cCall (L.getD i call0))) (l : Nat) (J : List StM → K.Cs → K.Cs → Prop) (E : K.Cs → K.Cs → Prop) (hJG : ∀ d, JGrow w0 (J d)) (hEG : JGrow w0 E) (Dt : List StM) (hY : YldS Try.prog w0 l Dt J E) (f : Nat) (IH : ∀ (U : List Bool) (gu g m : K.Cs) (done : List StM) (q s mm : Option Addr) (cq cs cm : Nat) (S : StM) (k : Nat), U.length = L.length → U.count false < f → K.OwnG gu 4 1 bu L.length cu (U.flatMap cBool) → J done g m → RdSt w0 g q s mm cq S → goodS k S → k + U.count false ≤ 1000000 → (done ++ endsN L f S U) <+: Dt → K.GC Try.prog w0 65 #[K.pa bx, stA q cq s cs mm cm S, .func (.yield l) #[] #[]] [gb, gu, gx, g, m] (TryR w0 bu cu U gb gx g J E (done ++ endsN L f S U))) (hcf : U.count false < f + 1) (g m : K.Cs) (done : List StM) (hJ0 : J done g m) (q s mm : Option Addr) (cq cs cm : Nat) (S : StM) (k : Nat) (x : RdSt w0 g q s mm cq S) (hgd : goodS k S) (hkc : k + U.count false ≤ 1000000) (hpre : (done ++ endsN L (f + 1) S U) <+: Dt) :
  K.GC Try.prog w0 65 #[K.pa bx, .agg #[.slice q S.q.length cq, .slice s S.s.length cs, .slice mm S.m.length cm], .func (.yield l) #[] #[]] [gb, gu, gx, g, m] (TryR w0 bu cu U gb gx g J E (done ++ endsN L (f + 1) S U)) := by
 refine K.GC.mk (n := 72) Try.func65 rfl rfl [K.pa bx, .agg #[.slice q S.q.length cq, .slice s S.s.length cs, .slice mm S.m.length cm], .func (.yield l) #[] #[]] rfl rfl ?_
 intro fr w hS
 replace hS : K.Sat w0 [gb, gu, gx, g, m, fr] w := hS
 refine K.s (K.g ?_)
 refine K.l (K.OW.gnew 30 [.slice q S.q.length cq, .slice s S.s.length cs, .slice mm S.m.length cm] hS ?_)
 clear hS; intro w r_1 g_2 hg_3 hS
 refine K.q [.bool false] (K.z (K.t (K.s (K.s (K.g (K.q [K.pa bx, K.pa bx, K.pa bx] ?_))))))
 refine K.d (.slice a L.length cap) ((hS.blk 1 rfl hgb).cell rfl) ?_
 refine K.a (K.QR.len (P := Try.prog) rfl rfl Try.underlying22) ?_
 refine K.q [K.iv 0] (K.z (K.t ?_))
 refine K.KW.block ?_
 refine K.KW.loop (fun m_ F_ w_ => ∃ (j : Nat) (u1 : K.Cs) (g1 : K.Cs) (m1 : K.Cs), m_ = L.length - j ∧ K.Sl F_ [(0, K.pa bx), (1, .agg #[.slice q S.q.length cq, .slice s S.s.length cs, .slice mm S.m.length cm]), (2, .func (.yield l) #[] #[]), (4, K.pa r_1), (15, .slice a L.length cap), (16, K.iv ((L.length : Nat) : Int)), (17, K.iv ((j : Nat) : Int)), (72, undef)] ∧ j ≤ L.length ∧ K.OwnG u1 4 1 bu L.length cu ((U).flatMap cBool) ∧ Grow w0 g g1 ∧ J (done ++ endsI L f S U j) g1 m1 ∧ K.Sat w0 [g_2, gb, u1, gx, g1, m1, fr] w_) ((fun (j : Nat) => L.length - j) 0) ?_ ?_
 ·
  exact ⟨0, gu, g, m, rfl, ⟨by rfl, by rfl, by rfl, by rfl, by rfl, by rfl, by rfl, by rfl, trivial⟩, (by omega), hu, Grow.refl w0 g, by simpa [endsI] using hJ0, hS.pick [0, 1, 2, 3, 4, 5, 6]⟩
 ·
  clear hS
  intro m_4 F_5 w hI
  obtain ⟨j, u1, g1, m1, rfl, sl_6, p_7, x_8, x_9, x_10, hS⟩ := hI
  rw [← K.Sl.puts sl_6]; clear sl_6
  refine K.s (K.g ?_)
  by_cases h_11 : (((j : Nat) : Int) : Int) < (((L.length : Nat) : Int) : Int)
  ·
   refine K.y ((((j : Nat) : Int) : Int) < (((L.length : Nat) : Int) : Int)) h_11 ?_
   refine K.z (K.t (K.s (K.h (K.k (K.t (K.s ?_))))))
   refine K.KW.block ?_
   refine K.s ?_
   have hx_12 := x.mono x_9
   obtain ⟨b_13, of_14, rfl, _⟩ := (hx _ (hS.pick [3])).at_ (by omega)
   obtain ⟨b_15, rfl⟩ := x_8.some_ (by have := x_8.le; omega)
   refine K.g (K.q [K.iv ((j : Nat) : Int)] ?_)
   refine K.a (K.QR.ix (of_14 + j * 11) 11 rfl rfl rfl Try.underlying22 (by kernel_rfl) (by omega) (by first | (simp; done) | omega | (simp; omega))) ?_
   refine K.a (K.QR.ldN [K.iv ((L.getD j call0).th), K.iv ((L.getD j call0).ok), .int .u32 ((L.getD j call0).key), .int .u32 ((L.getD j call0).val), K.iv ((L.getD j call0).rk), .int .u32 ((L.getD j call0).rv), K.iv ((L.getD j call0).beg), K.iv ((L.getD j call0).en), K.iv ((L.getD j call0).wh), .bool ((L.getD j call0).cr), .bool ((L.getD j call0).kp)] rfl rfl (by kernel_rfl) (by kernel_rfl) (K.cells (K.cl ((hx _ (hS.pick [3])).ld j (by omega) 0 _ rfl) (K.cl ((hx _ (hS.pick [3])).ld j (by omega) 1 _ rfl) (K.cl ((hx _ (hS.pick [3])).ld j (by omega) 2 _ rfl) (K.cl ((hx _ (hS.pick [3])).ld j (by omega) 3 _ rfl) (K.cl ((hx _ (hS.pick [3])).ld j (by omega) 4 _ rfl) (K.cl ((hx _ (hS.pick [3])).ld j (by omega) 5 _ rfl) (K.cl ((hx _ (hS.pick [3])).ld j (by omega) 6 _ rfl) (K.cl ((hx _ (hS.pick [3])).ld j (by omega) 7 _ rfl) (K.cl ((hx _ (hS.pick [3])).ld j (by omega) 8 _ rfl) (K.cl ((hx _ (hS.pick [3])).ld j (by omega) 9 _ rfl) (K.cl ((hx _ (hS.pick [3])).ld j (by omega) 10 _ rfl) K.cl0))))))))))))) ?_
   refine K.l (K.OW.gnew 51 [K.iv 0, K.iv 0, .int .u32 0, .int .u32 0, K.iv 0, .int .u32 0, K.iv 0, K.iv 0, K.iv 0, .bool false, .bool false] hS ?_)
   clear hS; intro w r_17 g_18 hg_19 hS
   refine K.q [K.iv ((j : Nat) : Int)] ?_
   refine K.l (K.OW.gst 0 [K.iv ((L.getD j call0).th), K.iv ((L.getD j call0).ok), .int .u32 ((L.getD j call0).key), .int .u32 ((L.getD j call0).val), K.iv ((L.getD j call0).rk), .int .u32 ((L.getD j call0).rv), K.iv ((L.getD j call0).beg), K.iv ((L.getD j call0).en), K.iv ((L.getD j call0).wh), .bool ((L.getD j call0).cr), .bool ((L.getD j call0).kp)] _ hS hg_19 ?_)
   clear hS; intro w g_20 hg_21 hS
   replace hS : K.Sat w0 [g_20, g_2, gb, u1, gx, g1, m1, fr] w := hS
   refine K.z (K.t (K.s (K.g ?_)))
   refine K.a (K.QR.ldN [.slice q S.q.length cq, .slice s S.s.length cs, .slice mm S.m.length cm] rfl rfl (by kernel_rfl) (by kernel_rfl) (K.cells (K.cl ((hS.blk 1 rfl hg_3).cell rfl) (K.cl ((hS.blk 1 rfl hg_3).cell rfl) (K.cl ((hS.blk 1 rfl hg_3).cell rfl) K.cl0))))) ?_
   refine K.a (K.QR.ldN [K.iv ((L.getD j call0).th), K.iv ((L.getD j call0).ok), .int .u32 ((L.getD j call0).key), .int .u32 ((L.getD j call0).val), K.iv ((L.getD j call0).rk), .int .u32 ((L.getD j call0).rv), K.iv ((L.getD j call0).beg), K.iv ((L.getD j call0).en), K.iv ((L.getD j call0).wh), .bool ((L.getD j call0).cr), .bool ((L.getD j call0).kp)] rfl rfl (by kernel_rfl) (by kernel_rfl) (K.cells (K.cl ((hS.blk 0 rfl hg_21).cell rfl) (K.cl ((hS.blk 0 rfl hg_21).cell rfl) (K.cl ((hS.blk 0 rfl hg_21).cell rfl) (K.cl ((hS.blk 0 rfl hg_21).cell rfl) (K.cl ((hS.blk 0 rfl hg_21).cell rfl) (K.cl ((hS.blk 0 rfl hg_21).cell rfl) (K.cl ((hS.blk 0 rfl hg_21).cell rfl) (K.cl ((hS.blk 0 rfl hg_21).cell rfl) (K.cl ((hS.blk 0 rfl hg_21).cell rfl) (K.cl ((hS.blk 0 rfl hg_21).cell rfl) (K.cl ((hS.blk 0 rfl hg_21).cell rfl) K.cl0))))))))))))) ?_
   refine K.l (K.OW.gcall hS [5] [0, 1, 2, 3, 4, 6, 7] [.agg #[.slice q S.q.length cq, .slice s S.s.length cs, .slice mm S.m.length cm], .agg #[K.iv ((L.getD j call0).th), K.iv ((L.getD j call0).ok), .int .u32 ((L.getD j call0).key), .int .u32 ((L.getD j call0).val), K.iv ((L.getD j call0).rk), .int .u32 ((L.getD j call0).rv), K.iv ((L.getD j call0).beg), K.iv ((L.getD j call0).en), K.iv ((L.getD j call0).wh), .bool ((L.getD j call0).cr), .bool ((L.getD j call0).kp)]] (next_ok _ q s mm cq cs cm S _ (by omega) hgd _ hx_12 (L.getD j call0)) ?_)
   clear hS; rintro _ _ w ⟨q_22, cq_23, s_24, cs_25, m_26, cm_27, g_28, rfl, rfl, hx_29, hg_30⟩ hS
   have hr_31 := hx_12.mono hg_30
   replace hS : K.Sat w0 [g_28, g_20, g_2, gb, u1, gx, m1, fr] w := hS
   refine K.q [.tuple #[.agg #[.slice q_22 (((nxtT S (L.getD j call0)).1).q.length) cq_23, .slice s_24 (((nxtT S (L.getD j call0)).1).s.length) cs_25, .slice m_26 (((nxtT S (L.getD j call0)).1).m.length) cm_27], .bool ((nxtT S (L.getD j call0)).2)], .agg #[.slice q_22 (((nxtT S (L.getD j call0)).1).q.length) cq_23, .slice s_24 (((nxtT S (L.getD j call0)).1).s.length) cs_25, .slice m_26 (((nxtT S (L.getD j call0)).1).m.length) cm_27], .bool ((nxtT S (L.getD j call0)).2)] ?_
   refine K.l (K.OW.gnew 30 [.slice none 0 0, .slice none 0 0, .slice none 0 0] hS ?_)
   clear hS; intro w r_32 g_33 hg_34 hS
   refine K.l (K.OW.gst 0 [.slice q_22 (((nxtT S (L.getD j call0)).1).q.length) cq_23, .slice s_24 (((nxtT S (L.getD j call0)).1).s.length) cs_25, .slice m_26 (((nxtT S (L.getD j call0)).1).m.length) cm_27] _ hS hg_34 ?_)
   clear hS; intro w g_35 hg_36 hS
   replace hS : K.Sat w0 [g_35, g_28, g_20, g_2, gb, u1, gx, m1, fr] w := hS
   refine K.q [.bool ((nxtT S (L.getD j call0)).2)] (K.z (K.t (K.s (K.s (K.g (K.q [K.pa bx, K.iv ((j : Nat) : Int)] ?_))))))
   refine K.l (K.OW.gcall hS [4, 5, 6] [0, 1, 2, 3, 7, 8] [K.pa bx, K.iv ((j : Nat) : Int)] (smay_ok _ _ _ _ (some ⟨b_13, of_14, none⟩) (some ⟨b_15, 0, none⟩) cap cu L U (by omega) (hU) (by rw [hU]; exact hgb) (by rw [hU]; exact x_8) _ hx j (by omega)) ?_)
   clear hS; rintro _ _ w ⟨rfl, (⟨h_37, rfl⟩ | ⟨h_38, rfl⟩)⟩ hS
   ·
    replace hS : K.Sat w0 [gb, u1, gx, g_35, g_28, g_20, g_2, m1, fr] w := hS
    refine K.q [.bool false, .bool false, .bool ((nxtT S (L.getD j call0)).2)] ?_
    cases hb_39 : (nxtT S (L.getD j call0)).2
    ·
     refine K.q [.bool true, .bool true, .bool true] (K.n_ (K.n_ (K.n_ (K.n_ (K.n_ (K.n_ (K.n_ (K.q [.bool true] (K.z (K.t (K.h ?_)))))))))))
     refine K.KW.exit ?_
     refine K.thn_exit ?_
     refine K.blk_hit ?_
     refine K.t (K.g ?_)
     refine K.a (K.QR.n64 ((((j : Nat) : Int) : Int) + (1 : Int)) ((j + 1 : Nat) : Int) (by kernel_rfl) (by omega)) ?_
     refine K.q [K.iv ((j + 1 : Nat) : Int)] (K.z (K.t ?_))
     refine ⟨_, ?_, j + 1, u1, g_28, m1, rfl, ⟨by rfl, by rfl, by rfl, by rfl, by rfl, by rfl, by rfl, by rfl, trivial⟩, (by omega), x_8, (x_9.trans hg_30), by rw [endsI_n (fun hg => by have h9 := hg.2.1; rw [hb_39] at h9; cases h9)]; exact (hJG _ _ _ _ x_10 hg_30), hS.pick [6, 0, 1, 2, 4, 7, 8]⟩
     omega
    ·
     refine K.q [.bool false, .bool false, .bool false, .pointer (some ⟨r_17, 9, none⟩)] ?_
     refine K.d (.bool ((L.getD j call0).cr)) ((hS.blk 5 rfl hg_21).cell rfl) ?_
     cases hb_40 : (L.getD j call0).cr
     ·
      refine K.q [.bool false] (K.n_ (K.n_ (K.n_ (K.q [.bool false, .bool false] (K.z (K.t (K.f (K.k (K.t (K.s (K.g (K.q [K.pa bx, K.pa bx, .pointer (some ⟨bx, 1, none⟩)] ?_))))))))))))
      refine K.d (.slice (some ⟨b_15, 0, none⟩) L.length cu) ((hS.blk 0 rfl hgb).cell rfl) ?_
      refine K.q [K.iv ((j : Nat) : Int)] ?_
      refine K.a (K.QR.ix j 1 rfl rfl rfl Try.underlying54 (by kernel_rfl) (by omega) (by first | (simp; done) | omega | (simp; omega))) ?_
      refine K.l (K.OW.grst 1 j [.bool true] (((U.set j true)).flatMap cBool) hS x_8 ?_ (by show _ + 1 ≤ _; omega) (K.set1 (c := cBool) U j true (by have := hU; omega)))
      clear hS; intro w l_41 o_42 hS
      have ln_43 : ((U.set j true)).length = _ := (List.length_set).trans hU
      replace hS : K.Sat w0 [gb, l_41, gx, g_35, g_28, g_20, g_2, m1, fr] w := hS
      refine K.z (K.t (K.s (K.g (K.q [K.pa bx] ?_))))
      refine K.a (K.QR.ldN [.slice q_22 (((nxtT S (L.getD j call0)).1).q.length) cq_23, .slice s_24 (((nxtT S (L.getD j call0)).1).s.length) cs_25, .slice m_26 (((nxtT S (L.getD j call0)).1).m.length) cm_27] rfl rfl (by kernel_rfl) (by kernel_rfl) (K.cells (K.cl ((hS.blk 3 rfl hg_36).cell rfl) (K.cl ((hS.blk 3 rfl hg_36).cell rfl) (K.cl ((hS.blk 3 rfl hg_36).cell rfl) K.cl0))))) ?_
      refine K.q [.func (.yield l) #[] #[]] ?_
      have hgo : goS L S U j := ⟨h_37, by assumption, by simp_all⟩
      have hpI := pre_in hpre (by omega) hgo
      have hcs := count_set (U := U) (i := j) (by omega) h_37.2
      refine K.l (K.OW.gcall hS [0, 1, 2, 4, 7] [3, 5, 6, 8] [K.pa bx, .agg #[.slice q_22 (((nxtT S (L.getD j call0)).1).q.length) cq_23, .slice s_24 (((nxtT S (L.getD j call0)).1).s.length) cs_25, .slice m_26 (((nxtT S (L.getD j call0)).1).m.length) cm_27], .func (.yield l) #[] #[]] (IH (U.set j true) _ _ _ _ q_22 s_24 m_26 cq_23 cs_25 cm_27 ((nxtT S (L.getD j call0)).1) (k + 1) ln_43 (by omega) o_42 (hJG _ _ _ _ x_10 hg_30) hx_29 hgd.nxt (by omega) hpI) ?_)
      clear hS; rintro _ _ w ⟨gu_46, g_47, m_48, rfl, hu0_49, hg_50, (⟨rfl, hj_44⟩ | ⟨rfl, he_45⟩)⟩ hS
      ·
       replace hS : K.Sat w0 [gb, gu_46, gx, g_47, m_48, g_35, g_20, g_2, fr] w := hS
       replace hu0_49 := K.OwnG.cast hu0_49 (ln_43) rfl
       refine K.q [.bool true] (K.z (K.t (K.s (K.g (K.q [K.pa bx, K.pa bx, .pointer (some ⟨bx, 1, none⟩)] ?_)))))
       refine K.d (.slice (some ⟨b_15, 0, none⟩) L.length cu) ((hS.blk 0 rfl hgb).cell rfl) ?_
       refine K.q [K.iv ((j : Nat) : Int)] ?_
       refine K.a (K.QR.ix j 1 rfl rfl rfl Try.underlying54 (by kernel_rfl) (by omega) (by first | (simp; done) | omega | (simp; omega))) ?_
       refine K.l (K.OW.grst 1 j [.bool false] ((((U.set j true).set j false)).flatMap cBool) hS hu0_49 ?_ (by show _ + 1 ≤ _; omega) (K.set1 (c := cBool) (U.set j true) j false (by have := ln_43; omega)))
       clear hS; intro w l_51 o_52 hS
       have ln_53 : (((U.set j true).set j false)).length = _ := (List.length_set).trans ln_43
       replace hS : K.Sat w0 [gb, l_51, gx, g_47, m_48, g_35, g_20, g_2, fr] w := hS
       refine K.z (K.t (K.s (K.g (K.q [.bool true, .bool false] (K.z (K.t (K.f (K.k ?_))))))))
       refine K.blk_normal ?_
       refine K.t (K.g ?_)
       refine K.a (K.QR.n64 ((((j : Nat) : Int) : Int) + (1 : Int)) ((j + 1 : Nat) : Int) (by kernel_rfl) (by omega)) ?_
       refine K.q [K.iv ((j + 1 : Nat) : Int)] (K.z (K.t ?_))
       refine ⟨_, ?_, j + 1, l_51, g_47, m_48, rfl, ⟨by rfl, by rfl, by rfl, by rfl, by rfl, by rfl, by rfl, by rfl, trivial⟩, (by omega), K.OwnG.cast o_52 rfl (by rw [set_back (by omega) h_37.2]), ((x_9.trans hg_30).trans hg_50), by rw [endsI_y ⟨h_37, by assumption, by simp_all⟩, ← List.append_assoc]; exact hj_44, hS.pick [7, 0, 1, 2, 3, 4, 8]⟩
       omega
      ·
       replace hS : K.Sat w0 [gb, gu_46, gx, g_47, m_48, g_35, g_20, g_2, fr] w := hS
       replace hu0_49 := K.OwnG.cast hu0_49 (ln_43) rfl
       refine K.q [.bool false] (K.z (K.t (K.s (K.g (K.q [K.pa bx, K.pa bx, .pointer (some ⟨bx, 1, none⟩)] ?_)))))
       refine K.d (.slice (some ⟨b_15, 0, none⟩) L.length cu) ((hS.blk 0 rfl hgb).cell rfl) ?_
       refine K.q [K.iv ((j : Nat) : Int)] ?_
       refine K.a (K.QR.ix j 1 rfl rfl rfl Try.underlying54 (by kernel_rfl) (by omega) (by first | (simp; done) | omega | (simp; omega))) ?_
       refine K.l (K.OW.grst 1 j [.bool false] ((((U.set j true).set j false)).flatMap cBool) hS hu0_49 ?_ (by show _ + 1 ≤ _; omega) (K.set1 (c := cBool) (U.set j true) j false (by have := ln_43; omega)))
       clear hS; intro w l_54 o_55 hS
       have ln_56 : (((U.set j true).set j false)).length = _ := (List.length_set).trans ln_43
       replace hS : K.Sat w0 [gb, l_54, gx, g_47, m_48, g_35, g_20, g_2, fr] w := hS
       refine K.z (K.t (K.s (K.g (K.q [.bool false, .bool true] (K.z (K.t (K.h (K.s (K.g (K.q [.bool false] (K.z (K.t (K.r ?_)))))))))))))
       refine K.blk_ret ?_
       refine K.u (K.u ?_)
       refine K.blk_ret ?_
       refine K.u ?_
       refine ⟨.inr rfl, rfl, (.bool false), K.res1 rfl rfl, [gb, l_54, gx, g_47, m_48], ?_, hS.pick [0, 1, 2, 3, 4, 8]⟩
       exact ⟨_, _, _, rfl, (by rw [hU]; exact K.OwnG.cast o_55 rfl (by rw [set_back (by omega) h_37.2])), ((x_9.trans hg_30).trans hg_50), .inr ⟨rfl, he_45⟩⟩
     ·
      refine K.q [.bool true, .pointer (some ⟨r_17, 8, none⟩)] ?_
      refine K.d (K.iv ((L.getD j call0).wh)) ((hS.blk 5 rfl hg_21).cell rfl) ?_
      by_cases h_57 : ((L.getD j call0).wh : Int) = ((-1) : Int)
      ·
       refine K.ye ((L.getD j call0).wh : Int) ((-1) : Int) h_57 ?_
       refine K.q [.bool true, .bool true] (K.z (K.t (K.h ?_)))
       refine K.KW.exit ?_
       refine K.thn_exit ?_
       refine K.blk_hit ?_
       refine K.t (K.g ?_)
       refine K.a (K.QR.n64 ((((j : Nat) : Int) : Int) + (1 : Int)) ((j + 1 : Nat) : Int) (by kernel_rfl) (by omega)) ?_
       refine K.q [K.iv ((j + 1 : Nat) : Int)] (K.z (K.t ?_))
       refine ⟨_, ?_, j + 1, u1, g_28, m1, rfl, ⟨by rfl, by rfl, by rfl, by rfl, by rfl, by rfl, by rfl, by rfl, trivial⟩, (by omega), x_8, (x_9.trans hg_30), by rw [endsI_n (fun hg => hg.2.2 ⟨hb_40, by omega⟩)]; exact (hJG _ _ _ _ x_10 hg_30), hS.pick [6, 0, 1, 2, 4, 7, 8]⟩
       omega
      ·
       refine K.xe ((L.getD j call0).wh : Int) ((-1) : Int) h_57 ?_
       refine K.q [.bool false, .bool false] (K.z (K.t (K.f (K.k (K.t (K.s (K.g (K.q [K.pa bx, K.pa bx, .pointer (some ⟨bx, 1, none⟩)] ?_))))))))
       refine K.d (.slice (some ⟨b_15, 0, none⟩) L.length cu) ((hS.blk 0 rfl hgb).cell rfl) ?_
       refine K.q [K.iv ((j : Nat) : Int)] ?_
       refine K.a (K.QR.ix j 1 rfl rfl rfl Try.underlying54 (by kernel_rfl) (by omega) (by first | (simp; done) | omega | (simp; omega))) ?_
       refine K.l (K.OW.grst 1 j [.bool true] (((U.set j true)).flatMap cBool) hS x_8 ?_ (by show _ + 1 ≤ _; omega) (K.set1 (c := cBool) U j true (by have := hU; omega)))
       clear hS; intro w l_58 o_59 hS
       have ln_60 : ((U.set j true)).length = _ := (List.length_set).trans hU
       replace hS : K.Sat w0 [gb, l_58, gx, g_35, g_28, g_20, g_2, m1, fr] w := hS
       refine K.z (K.t (K.s (K.g (K.q [K.pa bx] ?_))))
       refine K.a (K.QR.ldN [.slice q_22 (((nxtT S (L.getD j call0)).1).q.length) cq_23, .slice s_24 (((nxtT S (L.getD j call0)).1).s.length) cs_25, .slice m_26 (((nxtT S (L.getD j call0)).1).m.length) cm_27] rfl rfl (by kernel_rfl) (by kernel_rfl) (K.cells (K.cl ((hS.blk 3 rfl hg_36).cell rfl) (K.cl ((hS.blk 3 rfl hg_36).cell rfl) (K.cl ((hS.blk 3 rfl hg_36).cell rfl) K.cl0))))) ?_
       refine K.q [.func (.yield l) #[] #[]] ?_
       have hgo : goS L S U j := ⟨h_37, by assumption, by simp_all⟩
       have hpI := pre_in hpre (by omega) hgo
       have hcs := count_set (U := U) (i := j) (by omega) h_37.2
       refine K.l (K.OW.gcall hS [0, 1, 2, 4, 7] [3, 5, 6, 8] [K.pa bx, .agg #[.slice q_22 (((nxtT S (L.getD j call0)).1).q.length) cq_23, .slice s_24 (((nxtT S (L.getD j call0)).1).s.length) cs_25, .slice m_26 (((nxtT S (L.getD j call0)).1).m.length) cm_27], .func (.yield l) #[] #[]] (IH (U.set j true) _ _ _ _ q_22 s_24 m_26 cq_23 cs_25 cm_27 ((nxtT S (L.getD j call0)).1) (k + 1) ln_60 (by omega) o_59 (hJG _ _ _ _ x_10 hg_30) hx_29 hgd.nxt (by omega) hpI) ?_)
       clear hS; rintro _ _ w ⟨gu_63, g_64, m_65, rfl, hu0_66, hg_67, (⟨rfl, hj_61⟩ | ⟨rfl, he_62⟩)⟩ hS
       ·
        replace hS : K.Sat w0 [gb, gu_63, gx, g_64, m_65, g_35, g_20, g_2, fr] w := hS
        replace hu0_66 := K.OwnG.cast hu0_66 (ln_60) rfl
        refine K.q [.bool true] (K.z (K.t (K.s (K.g (K.q [K.pa bx, K.pa bx, .pointer (some ⟨bx, 1, none⟩)] ?_)))))
        refine K.d (.slice (some ⟨b_15, 0, none⟩) L.length cu) ((hS.blk 0 rfl hgb).cell rfl) ?_
        refine K.q [K.iv ((j : Nat) : Int)] ?_
        refine K.a (K.QR.ix j 1 rfl rfl rfl Try.underlying54 (by kernel_rfl) (by omega) (by first | (simp; done) | omega | (simp; omega))) ?_
        refine K.l (K.OW.grst 1 j [.bool false] ((((U.set j true).set j false)).flatMap cBool) hS hu0_66 ?_ (by show _ + 1 ≤ _; omega) (K.set1 (c := cBool) (U.set j true) j false (by have := ln_60; omega)))
        clear hS; intro w l_68 o_69 hS
        have ln_70 : (((U.set j true).set j false)).length = _ := (List.length_set).trans ln_60
        replace hS : K.Sat w0 [gb, l_68, gx, g_64, m_65, g_35, g_20, g_2, fr] w := hS
        refine K.z (K.t (K.s (K.g (K.q [.bool true, .bool false] (K.z (K.t (K.f (K.k ?_))))))))
        refine K.blk_normal ?_
        refine K.t (K.g ?_)
        refine K.a (K.QR.n64 ((((j : Nat) : Int) : Int) + (1 : Int)) ((j + 1 : Nat) : Int) (by kernel_rfl) (by omega)) ?_
        refine K.q [K.iv ((j + 1 : Nat) : Int)] (K.z (K.t ?_))
        refine ⟨_, ?_, j + 1, l_68, g_64, m_65, rfl, ⟨by rfl, by rfl, by rfl, by rfl, by rfl, by rfl, by rfl, by rfl, trivial⟩, (by omega), K.OwnG.cast o_69 rfl (by rw [set_back (by omega) h_37.2]), ((x_9.trans hg_30).trans hg_67), by rw [endsI_y ⟨h_37, by assumption, by simp_all⟩, ← List.append_assoc]; exact hj_61, hS.pick [7, 0, 1, 2, 3, 4, 8]⟩
        omega
       ·
        replace hS : K.Sat w0 [gb, gu_63, gx, g_64, m_65, g_35, g_20, g_2, fr] w := hS
        replace hu0_66 := K.OwnG.cast hu0_66 (ln_60) rfl
        refine K.q [.bool false] (K.z (K.t (K.s (K.g (K.q [K.pa bx, K.pa bx, .pointer (some ⟨bx, 1, none⟩)] ?_)))))
        refine K.d (.slice (some ⟨b_15, 0, none⟩) L.length cu) ((hS.blk 0 rfl hgb).cell rfl) ?_
        refine K.q [K.iv ((j : Nat) : Int)] ?_
        refine K.a (K.QR.ix j 1 rfl rfl rfl Try.underlying54 (by kernel_rfl) (by omega) (by first | (simp; done) | omega | (simp; omega))) ?_
        refine K.l (K.OW.grst 1 j [.bool false] ((((U.set j true).set j false)).flatMap cBool) hS hu0_66 ?_ (by show _ + 1 ≤ _; omega) (K.set1 (c := cBool) (U.set j true) j false (by have := ln_60; omega)))
        clear hS; intro w l_71 o_72 hS
        have ln_73 : (((U.set j true).set j false)).length = _ := (List.length_set).trans ln_60
        replace hS : K.Sat w0 [gb, l_71, gx, g_64, m_65, g_35, g_20, g_2, fr] w := hS
        refine K.z (K.t (K.s (K.g (K.q [.bool false, .bool true] (K.z (K.t (K.h (K.s (K.g (K.q [.bool false] (K.z (K.t (K.r ?_)))))))))))))
        refine K.blk_ret ?_
        refine K.u (K.u ?_)
        refine K.blk_ret ?_
        refine K.u ?_
        refine ⟨.inr rfl, rfl, (.bool false), K.res1 rfl rfl, [gb, l_71, gx, g_64, m_65], ?_, hS.pick [0, 1, 2, 3, 4, 8]⟩
        exact ⟨_, _, _, rfl, (by rw [hU]; exact K.OwnG.cast o_72 rfl (by rw [set_back (by omega) h_37.2])), ((x_9.trans hg_30).trans hg_67), .inr ⟨rfl, he_62⟩⟩
   ·
    replace hS : K.Sat w0 [gb, u1, gx, g_35, g_28, g_20, g_2, m1, fr] w := hS
    refine K.q [.bool true, .bool true] (K.n_ (K.n_ (K.q [.bool true, .bool true] (K.n_ (K.n_ (K.n_ (K.n_ (K.n_ (K.n_ (K.n_ (K.q [.bool true] (K.z (K.t (K.h ?_))))))))))))))
    refine K.KW.exit ?_
    refine K.thn_exit ?_
    refine K.blk_hit ?_
    refine K.t (K.g ?_)
    refine K.a (K.QR.n64 ((((j : Nat) : Int) : Int) + (1 : Int)) ((j + 1 : Nat) : Int) (by kernel_rfl) (by omega)) ?_
    refine K.q [K.iv ((j + 1 : Nat) : Int)] (K.z (K.t ?_))
    refine ⟨_, ?_, j + 1, u1, g_28, m1, rfl, ⟨by rfl, by rfl, by rfl, by rfl, by rfl, by rfl, by rfl, by rfl, trivial⟩, (by omega), x_8, (x_9.trans hg_30), by rw [endsI_n (fun hg => h_38 hg.1)]; exact (hJG _ _ _ _ x_10 hg_30), hS.pick [6, 0, 1, 2, 4, 7, 8]⟩
    omega
  ·
   refine K.x ((((j : Nat) : Int) : Int) < (((L.length : Nat) : Int) : Int)) h_11 ?_
   refine K.z (K.t (K.s (K.f ?_)))
   refine K.KW.exit ?_
   refine K.thn_exit ?_
   refine K.thn_exit ?_
   refine K.blk_hit ?_
   refine K.t (K.s ?_)
   have hx12 := x.mono x_9
   refine K.KW.regionY ?_
   refine K.RY.q rfl rfl (K.QR.k (v := K.pa bx) (by kernel_rfl)) ?_
   refine K.RY.l rfl (K.OW.gcall hS [1, 2, 3] [0, 4, 5, 6] [K.pa bx] (over_ok _ _ _ _ a bu cap cu L U (by omega) (hU) (by rw [hU]; exact hgb) (by rw [hU]; exact x_8) _ hx) ?_)
   clear hS; rintro _ _ w ⟨rfl, (⟨h_74, rfl⟩ | ⟨h_75, rfl⟩)⟩ hS
   ·
    replace hS : K.Sat w0 [gb, u1, gx, g_2, g1, m1, fr] w := hS
    refine K.RY.q rfl rfl (K.QR.k (v := .bool false) (by kernel_rfl)) ?_
    refine K.RY.q rfl rfl (K.QR.k (v := .bool false) (by kernel_rfl)) ?_
    refine K.RY.q rfl (by kernel_rfl) (K.QR.k (v := .func (.yield l) #[] #[]) (by kernel_rfl)) ?_
    refine K.RY.q rfl (by kernel_rfl) (K.QR.ldN [.slice q S.q.length cq, .slice s S.s.length cs, .slice mm S.m.length cm] rfl rfl (by kernel_rfl) (by kernel_rfl) (K.cells (K.cl ((hS.blk 3 rfl hg_3).cell rfl) (K.cl ((hS.blk 3 rfl hg_3).cell rfl) (K.cl ((hS.blk 3 rfl hg_3).cell rfl) K.cl0))))) ?_
    replace hS : K.Sat w0 [[g1, m1].flatten, gb, u1, gx, g_2, fr] w := (hS.pick [4, 5, 0, 1, 2, 3, 6]).of
    have hpy : ((done ++ endsI L f S U j) ++ [S]) <+: Dt := by rw [show j = L.length by omega, List.append_assoc, ← ends_over h_74]; exact hpre
    refine K.RY.gyieldb hS 0 [1, 2, 3, 4, 5] [.agg #[.slice q S.q.length cq, .slice s S.s.length cs, .slice mm S.m.length cm]] (hY _ _ _ q s mm cq cs cm S x_10 hx12 (hgd.le (by omega)) hpy) rfl (by kernel_rfl) ?_
    clear hS; rintro _ w m_79 (⟨rfl, m_78, rfl, hj_76⟩ | ⟨rfl, m_78, rfl, he_77⟩) hS
    ·
     replace hS : K.Sat w0 [[g1, m_78].flatten, gb, u1, gx, g_2, fr] w := hS
     refine K.RY.q rfl rfl (K.QR.k (v := .bool true) (by kernel_rfl)) ?_
     refine K.RY.q rfl rfl (K.QR.k (v := .bool true) (by kernel_rfl)) ?_
     refine K.RY.nil ?_
     refine K.t (K.r ?_)
     replace hS : K.Sat w0 [g1, m_78, gb, u1, gx, g_2, fr] w := hS.of
     have hje : j = L.length := by omega
     subst hje
     refine ⟨.inr rfl, rfl, (.bool true), K.res1 rfl rfl, [gb, u1, gx, g1, m_78], ?_, hS.pick [2, 3, 4, 0, 1, 6]⟩
     exact ⟨_, _, _, rfl, (by rw [hU]; exact x_8), x_9, .inl ⟨rfl, by rw [ends_over h_74, ← List.append_assoc]; exact hj_76⟩⟩
    ·
     replace hS : K.Sat w0 [[g1, m_78].flatten, gb, u1, gx, g_2, fr] w := hS
     refine K.RY.q rfl rfl (K.QR.k (v := .bool false) (by kernel_rfl)) ?_
     refine K.RY.q rfl rfl (K.QR.k (v := .bool false) (by kernel_rfl)) ?_
     refine K.RY.nil ?_
     refine K.t (K.r ?_)
     replace hS : K.Sat w0 [g1, m_78, gb, u1, gx, g_2, fr] w := hS.of
     refine ⟨.inr rfl, rfl, (.bool false), K.res1 rfl rfl, [gb, u1, gx, g1, m_78], ?_, hS.pick [2, 3, 4, 0, 1, 6]⟩
     exact ⟨_, _, _, rfl, (by rw [hU]; exact x_8), x_9, .inr ⟨rfl, he_77⟩⟩
   ·
    replace hS : K.Sat w0 [gb, u1, gx, g_2, g1, m1, fr] w := hS
    refine K.RY.q rfl rfl (K.QR.k (v := .bool true) (by kernel_rfl)) ?_
    refine K.RY.q rfl rfl (K.QR.k (v := .bool true) (by kernel_rfl)) ?_
    refine K.RY.skip rfl (by kernel_rfl) ?_
    refine K.RY.skip rfl (by kernel_rfl) ?_
    refine K.RY.skip rfl (by kernel_rfl) ?_
    refine K.RY.q rfl rfl (K.QR.k (v := .bool true) (by kernel_rfl)) ?_
    refine K.RY.q rfl rfl (K.QR.k (v := .bool true) (by kernel_rfl)) ?_
    refine K.RY.nil ?_
    refine K.t (K.r ?_)
    have hje : j = L.length := by omega
    subst hje
    refine ⟨.inr rfl, rfl, (.bool true), K.res1 rfl rfl, [gb, u1, gx, g1, m1], ?_, hS.pick [0, 1, 2, 4, 5, 6]⟩
    exact ⟨_, _, _, rfl, (by rw [hU]; exact x_8), x_9, .inl ⟨rfl, by rw [ends_open h_75]; exact x_10⟩⟩
end Go.Proofs.Ytnehocjmgnhhhaa
