import Derived.Test.YtnehocjmgnhhhaaFde
import Derived.Test.YtnehocjmgnhhhaaKn
/- The statement WitnessEnds. -/
namespace Go.Proofs.Ytnehocjmgnhhhaa
open Go.RowKit
set_option linter.unusedVariables false
attribute [local irreducible] K.KW K.RW K.DW K.OW K.QR K.KC
theorem sts_ne {L : List StE} {i k : Nat} (h : (stsE L).Nodup) (hk : k < i) (hi : i < L.length) : ¬ (L.getD i dStE).S = (L.getD k dStE).S := fun e => by
 have hp := List.pairwise_iff_getElem.1 h k i (by rw [stsE_len]; omega) (by rw [stsE_len]; exact hi) hk
 refine hp ?_
 have g : ∀ j (hj : j < L.length), (stsE L)[j]'(by rw [stsE_len]; exact hj) = (L.getD j dStE).S := fun j hj => by
  unfold stsE
  rw [List.getElem_map, List.getD_eq_getElem?_getD, List.getElem?_eq_getElem hj]; rfl
 rw [g k (by omega), g i hi, e]
theorem ends_in {L : List CallM} (hr : rightH L) {S : StM} {A D : List StE} (hA : stsE A = dedN (endsN L ((List.replicate L.length false).count false + 1) S (List.replicate L.length false))) (hD : ∀ T, T ∈ stsE D ↔ ∃ o, goodU L (noneU L) o ∧ runN L S o = some T) :
  (∀ i, i < A.length → inE D (A.getD i dStE).S) ∧ ∀ i, i < D.length → inE A (D.getD i dStE).S := by
 have key : ∀ T, T ∈ stsE A ↔ T ∈ stsE D := fun T => by rw [hA, dedN_mem, mem_ends0 hr, hD]
 exact ⟨fun i hi => inE_iff.2 ((key _).1 (inE_iff.1 ⟨i, hi, rfl⟩)), fun i hi => inE_iff.2 ((key _).2 (inE_iff.1 ⟨i, hi, rfl⟩))⟩
theorem ends_none {L : List CallM} (hr : rightH L) {S : StM} {D : List StE} (he : endsN L ((List.replicate L.length false).count false + 1) S (List.replicate L.length false) = []) (hD : ∀ T, T ∈ stsE D ↔ ∃ o, goodU L (noneU L) o ∧ runN L S o = some T) : D.length = 0 := by
 rw [← stsE_len, List.length_eq_zero_iff]
 refine List.eq_nil_iff_forall_not_mem.2 fun T hT => ?_
 have := (mem_ends0 hr).2 ((hD T).1 hT)
 rw [he] at this; simp at this
theorem ends_some {L : List CallM} (hr : rightH L) {S : StM} {D : List StE} (he : ¬ endsN L ((List.replicate L.length false).count false + 1) S (List.replicate L.length false) = []) (hD : ∀ T, T ∈ stsE D ↔ ∃ o, goodU L (noneU L) o ∧ runN L S o = some T) : 0 < D.length := by
 obtain ⟨T, hT⟩ := List.exists_mem_of_ne_nil _ he
 have := (hD T).2 ((mem_ends0 hr).1 hT)
 rw [← stsE_len]
 exact List.length_pos_of_mem this
set_option maxHeartbeats 16000000 in
set_option maxRecDepth 100000 in
theorem lawwe_ok (w0 : World) (q s mm a : Option Addr) (cq cs cm cap : Nat) (S : StM) (L : List CallM) (x1 : RU32 w0 q S.q) (x2 : RU32 w0 s S.s) (x3 : RPr w0 mm S.m) (hcq : S.q.length ≤ cq) (ha : K.RowE w0 a L.length 11 (fun i => cCall (L.getD i call0))) :
  K.GC Try.prog w0 5 #[.agg #[.slice q S.q.length cq, .slice s S.s.length cs, .slice mm S.m.length cm], .slice a L.length cap] [] (fun v post => v = .bool true) := by
 refine K.GC.mk (n := 102) Try.func5 rfl rfl [.agg #[.slice q S.q.length cq, .slice s S.s.length cs, .slice mm S.m.length cm], .slice a L.length cap] rfl rfl ?_
 intro fr w hS
 replace hS : K.Sat w0 [fr] w := hS
 obtain ⟨g, hg⟩ : ∃ g : K.Cs, g = [] := ⟨_, rfl⟩
 have x : RdSt w0 g q s mm cq S := ⟨fun _ h => x1.no h.chg, fun _ h => x2.no h.chg, fun _ h => x3.no h.chg, hcq⟩
 replace hS : K.Sat w0 [g, fr] w := hS.of (by simp [hg])
 refine K.s (K.g ?_)
 refine K.l (K.OW.gnew 30 [.slice q S.q.length cq, .slice s S.s.length cs, .slice mm S.m.length cm] hS ?_)
 clear hS; intro w r_1 g_2 hg_3 hS
 refine K.q [.bool false] (K.z (K.t (K.s (K.s (K.g ?_)))))
 refine K.a (K.QR.ldN [.slice q S.q.length cq, .slice s S.s.length cs, .slice mm S.m.length cm] rfl rfl (by kernel_rfl) (by kernel_rfl) (K.cells (K.cl ((hS.blk 0 rfl hg_3).cell rfl) (K.cl ((hS.blk 0 rfl hg_3).cell rfl) (K.cl ((hS.blk 0 rfl hg_3).cell rfl) K.cl0))))) ?_
 refine K.q [.slice a L.length cap] ?_
 refine K.l (K.OW.gcall hS [] [0, 1, 2] [.agg #[.slice q S.q.length cq, .slice s S.s.length cs, .slice mm S.m.length cm], .slice a L.length cap] (few25_ok _ q s mm a cq cs cm cap S L) ?_)
 clear hS; rintro _ _ w ⟨rfl, (⟨h_4, rfl⟩ | ⟨h_5, rfl⟩)⟩ hS
 ·
  replace hS : K.Sat w0 [g_2, g, fr] w := hS
  refine K.q [.bool false, .bool false, .slice a L.length cap] ?_
  refine K.a (K.QR.len (P := Try.prog) rfl rfl Try.underlying22) ?_
  by_cases h_6 : (((L.length : Nat) : Int) : Int) > (5 : Int)
  ·
   refine K.y ((((L.length : Nat) : Int) : Int) > (5 : Int)) h_6 ?_
   refine K.q [.bool true] (K.z (K.t (K.h (K.s (K.g ?_)))))
   refine K.l (K.OW.gcall hS [] [0, 1, 2] [] (awake25_ok _) ?_)
   clear hS; rintro _ _ w ⟨rfl, rfl⟩ hS
   replace hS : K.Sat w0 [g_2, g, fr] w := hS
   refine K.q [.bool true] (K.z (K.t (K.r (K.u ?_))))
   refine ⟨.inr rfl, rfl, (.bool true), K.res1 rfl rfl, [], ?_, hS.pick [2]⟩
   exact rfl
  ·
   refine K.x ((((L.length : Nat) : Int) : Int) > (5 : Int)) h_6 ?_
   refine K.q [.bool false] (K.z (K.t (K.f (K.k (K.t (K.s (K.g ?_)))))))
   refine K.a (K.QR.ldN [.slice q S.q.length cq, .slice s S.s.length cs, .slice mm S.m.length cm] rfl rfl (by kernel_rfl) (by kernel_rfl) (K.cells (K.cl ((hS.blk 0 rfl hg_3).cell rfl) (K.cl ((hS.blk 0 rfl hg_3).cell rfl) (K.cl ((hS.blk 0 rfl hg_3).cell rfl) K.cl0))))) ?_
   refine K.q [.slice a L.length cap] ?_
   refine K.l (K.OW.gcall hS [1, 53] [0, 2] [.agg #[.slice q S.q.length cq, .slice s S.s.length cs, .slice mm S.m.length cm], .slice a L.length cap] (linear_ok _ _ _ L (by omega) _ (fun w h => ha.no h.chg) q s mm cq cs cm S (by omega) (by omega) _ x (by omega) (by omega) (by omega)) ?_)
   clear hS; rintro _ _ w (⟨h_7, rfl, rfl⟩ | ⟨h_8, h2_9, rfl, rfl⟩ | ⟨h_10, h2_11, h3_12, rfl, rfl⟩ | ⟨h_13, h2_14, h3_15, h4_16, g_17, rfl, hg_18, rfl⟩ | ⟨h_19, h2_20, h3_21, h4_22, g_23, rfl, hg_24, rfl⟩) hS
   ·
    replace hS : K.Sat w0 [g, g_2, fr] w := hS.of (by simp [K.pick, K.nth])
    refine K.q [.tuple #[.bool false, K.iv 1], .bool false, K.iv 1, .bool false, K.iv 1] (K.z (K.t (K.s (K.g ?_))))
    refine K.a (K.QR.ldN [.slice q S.q.length cq, .slice s S.s.length cs, .slice mm S.m.length cm] rfl rfl (by kernel_rfl) (by kernel_rfl) (K.cells (K.cl ((hS.blk 1 rfl hg_3).cell rfl) (K.cl ((hS.blk 1 rfl hg_3).cell rfl) (K.cl ((hS.blk 1 rfl hg_3).cell rfl) K.cl0))))) ?_
    refine K.q [.slice a L.length cap] ?_
    refine K.l (K.OW.gcall hS [0, 53] [1, 2] [.agg #[.slice q S.q.length cq, .slice s S.s.length cs, .slice mm S.m.length cm], .slice a L.length cap] (wends_ok _ _ _ L (by omega) _ (fun w h => ha.no h.chg) q s mm cq cs cm S (by omega) (by omega) _ x (by omega) (by omega) (by omega)) ?_)
    clear hS; rintro _ _ w (⟨h_25, rfl, rfl⟩ | ⟨h_26, h2_27, h3_28, g_29, go_30, ra_31, c_32, Lr_33, rfl, hg_34, rfl, o_35, hal_36, hsz_37, hst_38, hln_39⟩) hS
    ·
     replace hS : K.Sat w0 [g, g_2, fr] w := hS.of (by simp [K.pick, K.nth])
     refine K.q [.slice none 0 0] (K.z (K.t (K.s (K.s (K.g ?_)))))
     refine K.a (K.QR.ldN [.slice q S.q.length cq, .slice s S.s.length cs, .slice mm S.m.length cm] rfl rfl (by kernel_rfl) (by kernel_rfl) (K.cells (K.cl ((hS.blk 1 rfl hg_3).cell rfl) (K.cl ((hS.blk 1 rfl hg_3).cell rfl) (K.cl ((hS.blk 1 rfl hg_3).cell rfl) K.cl0))))) ?_
     refine K.l (K.OW.gcall hS [0] [1, 2] [.agg #[.slice q S.q.length cq, .slice s S.s.length cs, .slice mm S.m.length cm]] (drightS_ok _ q s mm cq cs cm S _ x (by omega) (by omega)) ?_)
     clear hS; rintro _ _ w ⟨rfl, (⟨h_40, rfl⟩ | ⟨h_41, rfl⟩)⟩ hS
     ·
      exact absurd h_40 h_7
     ·
      replace hS : K.Sat w0 [g, g_2, fr] w := hS
      refine K.q [.bool true, .bool true] (K.n_ (K.n_ (K.n_ (K.q [.bool true] (K.z (K.t (K.h (K.s (K.g (K.q [K.iv 3] (K.z (K.t (K.s (K.s ?_))))))))))))))
      refine K.g ?_
      refine K.a (K.QR.ldN [.slice q S.q.length cq, .slice s S.s.length cs, .slice mm S.m.length cm] rfl rfl (by kernel_rfl) (by kernel_rfl) (K.cells (K.cl ((hS.blk 1 rfl hg_3).cell rfl) (K.cl ((hS.blk 1 rfl hg_3).cell rfl) (K.cl ((hS.blk 1 rfl hg_3).cell rfl) K.cl0))))) ?_
      refine K.l (K.OW.gcall hS [0] [1, 2] [.agg #[.slice q S.q.length cq, .slice s S.s.length cs, .slice mm S.m.length cm]] (drightS_ok _ q s mm cq cs cm S _ x (by omega) (by omega)) ?_)
      clear hS; rintro _ _ w ⟨rfl, (⟨h_42, rfl⟩ | ⟨h_43, rfl⟩)⟩ hS
      ·
       exact absurd h_42 h_7
      ·
       replace hS : K.Sat w0 [g, g_2, fr] w := hS
       refine K.q [.bool true] (K.z (K.t (K.h (K.g (K.q [K.iv 1] (K.z (K.t (K.s (K.g ?_)))))))))
       refine K.l (K.OW.gcall hS [] [0, 1, 2] [] (awake25_ok _) ?_)
       clear hS; rintro _ _ w ⟨rfl, rfl⟩ hS
       replace hS : K.Sat w0 [g, g_2, fr] w := hS
       refine K.q [.bool true, K.iv 1, K.iv 1, .bool true, .bool true, .bool true, .bool false, .bool true, .bool true, .bool true, .slice none 0 0] ?_
       refine K.a (K.QR.len (P := Try.prog) rfl rfl Try.underlying42) ?_
       refine K.q [.bool true, .bool true, .bool true] (K.z (K.t (K.r (K.u ?_))))
       refine ⟨.inr rfl, rfl, (.bool true), K.res1 rfl rfl, [], ?_, hS.pick [2]⟩
       exact rfl
    ·
     exact absurd h_26 h_7
   ·
    replace hS : K.Sat w0 [g, g_2, fr] w := hS.of (by simp [K.pick, K.nth])
    refine K.q [.tuple #[.bool false, K.iv 3], .bool false, K.iv 3, .bool false, K.iv 3] (K.z (K.t (K.s (K.g ?_))))
    refine K.a (K.QR.ldN [.slice q S.q.length cq, .slice s S.s.length cs, .slice mm S.m.length cm] rfl rfl (by kernel_rfl) (by kernel_rfl) (K.cells (K.cl ((hS.blk 1 rfl hg_3).cell rfl) (K.cl ((hS.blk 1 rfl hg_3).cell rfl) (K.cl ((hS.blk 1 rfl hg_3).cell rfl) K.cl0))))) ?_
    refine K.q [.slice a L.length cap] ?_
    refine K.l (K.OW.gcall hS [0, 53] [1, 2] [.agg #[.slice q S.q.length cq, .slice s S.s.length cs, .slice mm S.m.length cm], .slice a L.length cap] (wends_ok _ _ _ L (by omega) _ (fun w h => ha.no h.chg) q s mm cq cs cm S (by omega) (by omega) _ x (by omega) (by omega) (by omega)) ?_)
    clear hS; rintro _ _ w (⟨h_44, rfl, rfl⟩ | ⟨h_45, h2_46, h3_47, g_48, go_49, ra_50, c_51, Lr_52, rfl, hg_53, rfl, o_54, hal_55, hsz_56, hst_57, hln_58⟩) hS
    ·
     replace hS : K.Sat w0 [g, g_2, fr] w := hS.of (by simp [K.pick, K.nth])
     refine K.q [.slice none 0 0] (K.z (K.t (K.s (K.s (K.g ?_)))))
     refine K.a (K.QR.ldN [.slice q S.q.length cq, .slice s S.s.length cs, .slice mm S.m.length cm] rfl rfl (by kernel_rfl) (by kernel_rfl) (K.cells (K.cl ((hS.blk 1 rfl hg_3).cell rfl) (K.cl ((hS.blk 1 rfl hg_3).cell rfl) (K.cl ((hS.blk 1 rfl hg_3).cell rfl) K.cl0))))) ?_
     refine K.l (K.OW.gcall hS [0] [1, 2] [.agg #[.slice q S.q.length cq, .slice s S.s.length cs, .slice mm S.m.length cm]] (drightS_ok _ q s mm cq cs cm S _ x (by omega) (by omega)) ?_)
     clear hS; rintro _ _ w ⟨rfl, (⟨h_59, rfl⟩ | ⟨h_60, rfl⟩)⟩ hS
     ·
      replace hS : K.Sat w0 [g, g_2, fr] w := hS
      refine K.q [.bool false, .bool false, .slice a L.length cap] ?_
      refine K.l (K.OW.gcall hS [53] [0, 1, 2] [.slice a L.length cap] (dhright_ok _ _ _ L (by omega) _ (fun w h => ha.no h.chg)) ?_)
      clear hS; rintro _ _ w ⟨rfl, (⟨h_61, rfl⟩ | ⟨h_62, rfl⟩)⟩ hS
      ·
       exact absurd h_61 h2_9
      ·
       replace hS : K.Sat w0 [g, g_2, fr] w := hS.of (by simp [K.pick, K.nth])
       refine K.q [.bool true, .bool true] (K.z (K.t (K.h (K.s (K.g (K.q [K.iv 3] (K.z (K.t (K.s (K.s (K.g ?_)))))))))))
       refine K.a (K.QR.ldN [.slice q S.q.length cq, .slice s S.s.length cs, .slice mm S.m.length cm] rfl rfl (by kernel_rfl) (by kernel_rfl) (K.cells (K.cl ((hS.blk 1 rfl hg_3).cell rfl) (K.cl ((hS.blk 1 rfl hg_3).cell rfl) (K.cl ((hS.blk 1 rfl hg_3).cell rfl) K.cl0))))) ?_
       refine K.l (K.OW.gcall hS [0] [1, 2] [.agg #[.slice q S.q.length cq, .slice s S.s.length cs, .slice mm S.m.length cm]] (drightS_ok _ q s mm cq cs cm S _ x (by omega) (by omega)) ?_)
       clear hS; rintro _ _ w ⟨rfl, (⟨h_63, rfl⟩ | ⟨h_64, rfl⟩)⟩ hS
       ·
        replace hS : K.Sat w0 [g, g_2, fr] w := hS
        refine K.q [.bool false] (K.z (K.t (K.f (K.k (K.t (K.s (K.g ?_)))))))
        refine K.l (K.OW.gcall hS [] [0, 1, 2] [] (awake25_ok _) ?_)
        clear hS; rintro _ _ w ⟨rfl, rfl⟩ hS
        replace hS : K.Sat w0 [g, g_2, fr] w := hS
        refine K.q [.bool true, K.iv 3, K.iv 3, .bool true, .bool true, .bool true, .bool false, .bool true, .bool true, .bool true, .slice none 0 0] ?_
        refine K.a (K.QR.len (P := Try.prog) rfl rfl Try.underlying42) ?_
        refine K.q [.bool true, .bool true, .bool true] (K.z (K.t (K.r (K.u ?_))))
        refine ⟨.inr rfl, rfl, (.bool true), K.res1 rfl rfl, [], ?_, hS.pick [2]⟩
        exact rfl
       ·
        exact absurd h_8 h_64
     ·
      exact absurd h_8 h_60
    ·
     exact absurd h2_46 h2_9
   ·
    exfalso; omega
   ·
    have hr_65 := x.mono hg_18
    replace hS : K.Sat w0 [g_17, g_2, fr] w := hS.of (by simp [K.pick, K.nth])
    refine K.q [.tuple #[.bool false, K.iv 0], .bool false, K.iv 0, .bool false, K.iv 0] (K.z (K.t (K.s (K.g ?_))))
    refine K.a (K.QR.ldN [.slice q S.q.length cq, .slice s S.s.length cs, .slice mm S.m.length cm] rfl rfl (by kernel_rfl) (by kernel_rfl) (K.cells (K.cl ((hS.blk 1 rfl hg_3).cell rfl) (K.cl ((hS.blk 1 rfl hg_3).cell rfl) (K.cl ((hS.blk 1 rfl hg_3).cell rfl) K.cl0))))) ?_
    refine K.q [.slice a L.length cap] ?_
    refine K.l (K.OW.gcall hS [0, 53] [1, 2] [.agg #[.slice q S.q.length cq, .slice s S.s.length cs, .slice mm S.m.length cm], .slice a L.length cap] (wends_ok _ _ _ L (by omega) _ (fun w h => ha.no h.chg) q s mm cq cs cm S (by omega) (by omega) _ hr_65 (by omega) (by omega) (by omega)) ?_)
    clear hS; rintro _ _ w (⟨h_66, rfl, rfl⟩ | ⟨h_67, h2_68, h3_69, g_70, go_71, ra_72, c_73, Lr_74, rfl, hg_75, rfl, o_76, hal_77, hsz_78, hst_79, hln_80⟩) hS
    ·
     exact h_66.elim (fun h9 => absurd h_13 h9) (fun h9 => h9.elim (fun h9 => absurd h2_14 h9) (fun h9 => by omega))
    ·
     have hr_81 := hr_65.mono hg_75
     replace hS : K.Sat w0 [g_70, go_71, g_2, fr] w := hS.of (by simp [K.pick, K.nth])
     refine K.q [.slice ra_72 Lr_74.length c_73] (K.z (K.t (K.s (K.s (K.g ?_)))))
     refine K.a (K.QR.ldN [.slice q S.q.length cq, .slice s S.s.length cs, .slice mm S.m.length cm] rfl rfl (by kernel_rfl) (by kernel_rfl) (K.cells (K.cl ((hS.blk 2 rfl hg_3).cell rfl) (K.cl ((hS.blk 2 rfl hg_3).cell rfl) (K.cl ((hS.blk 2 rfl hg_3).cell rfl) K.cl0))))) ?_
     refine K.l (K.OW.gcall hS [0] [1, 2, 3] [.agg #[.slice q S.q.length cq, .slice s S.s.length cs, .slice mm S.m.length cm]] (drightS_ok _ q s mm cq cs cm S _ hr_81 (by omega) (by omega)) ?_)
     clear hS; rintro _ _ w ⟨rfl, (⟨h_82, rfl⟩ | ⟨h_83, rfl⟩)⟩ hS
     ·
      replace hS : K.Sat w0 [g_70, go_71, g_2, fr] w := hS
      refine K.q [.bool false, .bool false, .slice a L.length cap] ?_
      refine K.l (K.OW.gcall hS [54] [0, 1, 2, 3] [.slice a L.length cap] (dhright_ok _ _ _ L (by omega) _ (fun w h => ha.no h.chg)) ?_)
      clear hS; rintro _ _ w ⟨rfl, (⟨h_84, rfl⟩ | ⟨h_85, rfl⟩)⟩ hS
      ·
       replace hS : K.Sat w0 [g_70, go_71, g_2, fr] w := hS.of (by simp [K.pick, K.nth])
       refine K.q [.bool false, .bool false] (K.z (K.t (K.f (K.k (K.t (K.s (K.g ?_)))))))
       refine K.a (K.QR.ldN [.slice q S.q.length cq, .slice s S.s.length cs, .slice mm S.m.length cm] rfl rfl (by kernel_rfl) (by kernel_rfl) (K.cells (K.cl ((hS.blk 2 rfl hg_3).cell rfl) (K.cl ((hS.blk 2 rfl hg_3).cell rfl) (K.cl ((hS.blk 2 rfl hg_3).cell rfl) K.cl0))))) ?_
       refine K.q [.slice a L.length cap] ?_
       refine K.l (K.OW.gcall hS [0, 54] [1, 2, 3] [.agg #[.slice q S.q.length cq, .slice s S.s.length cs, .slice mm S.m.length cm], .slice a L.length cap] (dends_ok _ _ _ L (by omega) _ (fun w h => ha.no h.chg) q s mm cq cs cm S (by omega) (by omega) _ hr_81 (by omega) (by omega) (by omega) (by omega) h_13 h2_14) ?_)
       clear hS; rintro _ _ w ⟨g_86, go_87, ra_88, c_89, Ld_90, rfl, hg_91, rfl, o_92, hal_93, hsz_94, hD_95, hln_96⟩ hS
       have hr_97 := hr_81.mono hg_91
       have hr_98 := AllRd.mono hal_77 hg_91
       replace hS : K.Sat w0 [g_86, go_87, go_71, g_2, fr] w := hS.of (by simp [K.pick, K.nth])
       refine K.q [.slice ra_88 Ld_90.length c_89] (K.z (K.t (K.s (K.s ?_))))
       have hLd := ends_none h2_14 h4_16 hD_95
       have hinn := ends_in h2_14 hst_79 hD_95
       refine K.g (K.q [K.iv 0, .bool false, .bool false, .bool false, .slice ra_88 Ld_90.length c_89] ?_)
       refine K.a (K.QR.len (P := Try.prog) rfl rfl Try.underlying42) ?_
       refine K.x ((((Ld_90.length : Nat) : Int) : Int) > (0 : Int)) ((by omega)) ?_
       refine K.q [.bool false, .bool false, .bool false, .slice ra_88 Ld_90.length c_89, .slice ra_72 Lr_74.length c_73] ?_
       refine K.l (K.OW.gcall hS [1, 2, 0] [3, 4] [.slice ra_88 Ld_90.length c_89, .slice ra_72 Lr_74.length c_73] (in25_ok _ ra_88 c_89 Ld_90 hln_96 _ (fun w h => K.RowE.len (K.Own.rowE dStE (h.ownr 0 rfl o_92) rfl (fun _ => rfl)) rfl) ra_72 c_73 Lr_74 hln_80 _ (fun w h => K.RowE.len (K.Own.rowE dStE (h.ownr 0 rfl o_76) rfl (fun _ => rfl)) rfl) _ hal_93 hr_98 hsz_78) ?_)
       clear hS; rintro _ _ w ⟨rfl, (⟨h_99, rfl⟩ | ⟨h_100, rfl⟩)⟩ hS
       ·
        replace hS : K.Sat w0 [go_87, go_71, g_86, g_2, fr] w := hS
        refine K.q [.bool false, .bool false, .bool false, .slice ra_72 Lr_74.length c_73, .slice ra_88 Ld_90.length c_89] ?_
        refine K.l (K.OW.gcall hS [1, 0, 2] [3, 4] [.slice ra_72 Lr_74.length c_73, .slice ra_88 Ld_90.length c_89] (in25_ok _ ra_72 c_73 Lr_74 hln_80 _ (fun w h => K.RowE.len (K.Own.rowE dStE (h.ownr 0 rfl o_76) rfl (fun _ => rfl)) rfl) ra_88 c_89 Ld_90 hln_96 _ (fun w h => K.RowE.len (K.Own.rowE dStE (h.ownr 0 rfl o_92) rfl (fun _ => rfl)) rfl) _ hr_98 hal_93 hsz_94) ?_)
        clear hS; rintro _ _ w ⟨rfl, (⟨h_101, rfl⟩ | ⟨h_102, rfl⟩)⟩ hS
        ·
         replace hS : K.Sat w0 [go_71, go_87, g_86, g_2, fr] w := hS
         refine K.q [.bool false, .bool false] (K.z (K.t (K.f (K.k (K.t (K.s (K.s (K.g (K.q [K.iv 0] (K.z (K.t ?_)))))))))))
         refine K.KW.block ?_
         refine K.KW.loop (fun m_ F_ w_ => ∃ (i : Nat), m_ = 100000001 - i ∧ K.Sl F_ [(0, .agg #[.slice q S.q.length cq, .slice s S.s.length cs, .slice mm S.m.length cm]), (1, .slice a L.length cap), (7, .slice ra_72 Lr_74.length c_73), (10, K.iv ((i : Nat) : Int)), (102, undef)] ∧ i ≤ Lr_74.length ∧ K.Sat w0 [go_71, go_87, g_86, g_2, fr] w_) ((fun (i : Nat) => 100000001 - i) 0) ?_ ?_
         ·
          exact ⟨0, rfl, ⟨by rfl, by rfl, by rfl, by rfl, by rfl, trivial⟩, (by omega), hS.pick [0, 1, 2, 3, 4]⟩
         ·
          clear hS
          intro m_103 F_104 w hI
          obtain ⟨i, rfl, sl_105, p_106, hS⟩ := hI
          rw [← K.Sl.puts sl_105]; clear sl_105
          refine K.s (K.s (K.g (K.q [K.iv ((i : Nat) : Int), .slice ra_72 Lr_74.length c_73] ?_)))
          refine K.a (K.QR.len (P := Try.prog) rfl rfl Try.underlying42) ?_
          by_cases h_107 : (((i : Nat) : Int) : Int) < (((Lr_74.length : Nat) : Int) : Int)
          ·
           refine K.y ((((i : Nat) : Int) : Int) < (((Lr_74.length : Nat) : Int) : Int)) h_107 ?_
           refine K.z (K.t (K.h (K.k (K.t (K.s ?_)))))
           refine K.KW.block ?_
           refine K.s (K.g (K.q [K.iv 0] (K.z (K.t ?_))))
           refine K.KW.block ?_
           refine K.KW.loop (fun m_ F_ w_ => ∃ (k : Nat), m_ = 100000001 - k ∧ K.Sl F_ [(0, .agg #[.slice q S.q.length cq, .slice s S.s.length cs, .slice mm S.m.length cm]), (1, .slice a L.length cap), (7, .slice ra_72 Lr_74.length c_73), (10, K.iv ((i : Nat) : Int)), (11, K.iv ((k : Nat) : Int)), (102, undef)] ∧ k ≤ i ∧ K.Sat w0 [go_71, go_87, g_86, g_2, fr] w_) ((fun (k : Nat) => 100000001 - k) 0) ?_ ?_
           ·
            exact ⟨0, rfl, ⟨by rfl, by rfl, by rfl, by rfl, by rfl, by rfl, trivial⟩, (by omega), hS.pick [0, 1, 2, 3, 4]⟩
           ·
            clear hS
            intro m_108 F_109 w hI
            obtain ⟨k, rfl, sl_110, p_111, hS⟩ := hI
            rw [← K.Sl.puts sl_110]; clear sl_110
            refine K.s (K.s (K.g (K.q [K.iv ((k : Nat) : Int), K.iv ((i : Nat) : Int)] ?_)))
            by_cases h_112 : (((k : Nat) : Int) : Int) < (((i : Nat) : Int) : Int)
            ·
             refine K.y ((((k : Nat) : Int) : Int) < (((i : Nat) : Int) : Int)) h_112 ?_
             refine K.z (K.t (K.h (K.k (K.t (K.s ?_)))))
             refine K.KW.block ?_
             refine K.s ?_
             obtain ⟨b_113, rfl⟩ := o_76.some_ (by have := o_76.le; omega)
             have hz := hsz_78 i (by omega)
             have hnd : (stsE Lr_74).Nodup := by rw [hst_79]; exact dedN_nodup
             refine K.KW.gdrawn [0] hS (by kernel_rfl) ?_
             clear hS; intro w hS
             refine K.p 0 rfl (.slice (some ⟨b_113, 0, none⟩) Lr_74.length c_73) (hS.pick [0]) ?_
             refine K.p 1 rfl (K.iv ((i : Nat) : Int)) (hS.pick [0]) ?_
             refine K.m 2 rfl (fun w hS => K.QR.ix (0 + i * 3) 3 rfl rfl rfl Try.underlying42 (by kernel_rfl) (by omega) (by first | (simp; done) | omega | (simp; omega))) (hS.pick [0]) ?_
             refine K.m 3 rfl (fun w hS => K.QR.ldN [.slice ((Lr_74.getD i dStE).q) ((Lr_74.getD i dStE).S.q.length) ((Lr_74.getD i dStE).cq), .slice ((Lr_74.getD i dStE).s) ((Lr_74.getD i dStE).S.s.length) ((Lr_74.getD i dStE).cs), .slice ((Lr_74.getD i dStE).m) ((Lr_74.getD i dStE).S.m.length) ((Lr_74.getD i dStE).cm)] rfl rfl (by kernel_rfl) (by kernel_rfl) (K.cells (K.cl ((K.Own.rowE dStE (hS.ownr 0 rfl o_76) rfl (fun _ => rfl)).ld i (by omega) 0 _ rfl) (K.cl ((K.Own.rowE dStE (hS.ownr 0 rfl o_76) rfl (fun _ => rfl)).ld i (by omega) 1 _ rfl) (K.cl ((K.Own.rowE dStE (hS.ownr 0 rfl o_76) rfl (fun _ => rfl)).ld i (by omega) 2 _ rfl) K.cl0))))) (hS.pick [0]) ?_
             refine K.p 4 rfl (.slice (some ⟨b_113, 0, none⟩) Lr_74.length c_73) (hS.pick [0]) ?_
             refine K.b 5 rfl (K.iv ((k : Nat) : Int)) (hS.pick [0]) ?_
             refine K.c 6 rfl (K.QR.ix (0 + k * 3) 3 rfl rfl rfl Try.underlying42 (by kernel_rfl) (by omega) (by first | (simp; done) | omega | (simp; omega))) (hS.pick [0]) ?_
             refine K.c 7 rfl (K.QR.ldN [.slice ((Lr_74.getD k dStE).q) ((Lr_74.getD k dStE).S.q.length) ((Lr_74.getD k dStE).cq), .slice ((Lr_74.getD k dStE).s) ((Lr_74.getD k dStE).S.s.length) ((Lr_74.getD k dStE).cs), .slice ((Lr_74.getD k dStE).m) ((Lr_74.getD k dStE).S.m.length) ((Lr_74.getD k dStE).cm)] rfl rfl (by kernel_rfl) (by kernel_rfl) (K.cells (K.cl ((K.Own.rowE dStE (hS.ownr 0 rfl o_76) rfl (fun _ => rfl)).ld k (by omega) 0 _ rfl) (K.cl ((K.Own.rowE dStE (hS.ownr 0 rfl o_76) rfl (fun _ => rfl)).ld k (by omega) 1 _ rfl) (K.cl ((K.Own.rowE dStE (hS.ownr 0 rfl o_76) rfl (fun _ => rfl)).ld k (by omega) 2 _ rfl) K.cl0))))) (hS.pick [0]) ?_
             refine K.DW.l 8 rfl (by kernel_rfl) rfl (K.OW.gcall hS [2] [0, 1, 3, 4] [.agg #[.slice ((Lr_74.getD i dStE).q) ((Lr_74.getD i dStE).S.q.length) ((Lr_74.getD i dStE).cq), .slice ((Lr_74.getD i dStE).s) ((Lr_74.getD i dStE).S.s.length) ((Lr_74.getD i dStE).cs), .slice ((Lr_74.getD i dStE).m) ((Lr_74.getD i dStE).S.m.length) ((Lr_74.getD i dStE).cm)], .agg #[.slice ((Lr_74.getD k dStE).q) ((Lr_74.getD k dStE).S.q.length) ((Lr_74.getD k dStE).cq), .slice ((Lr_74.getD k dStE).s) ((Lr_74.getD k dStE).S.s.length) ((Lr_74.getD k dStE).cs), .slice ((Lr_74.getD k dStE).m) ((Lr_74.getD k dStE).S.m.length) ((Lr_74.getD k dStE).cm)]] (sameS_ok _ (Lr_74.getD i dStE).q (Lr_74.getD i dStE).s (Lr_74.getD i dStE).m (Lr_74.getD k dStE).q (Lr_74.getD k dStE).s (Lr_74.getD k dStE).m ((Lr_74.getD i dStE).cq) ((Lr_74.getD i dStE).cs) ((Lr_74.getD i dStE).cm) ((Lr_74.getD k dStE).cq) ((Lr_74.getD k dStE).cs) ((Lr_74.getD k dStE).cm) ((Lr_74.getD i dStE).S) ((Lr_74.getD k dStE).S) _ (hr_98 i (by omega)) (hr_98 k (by omega)) hz.1 hz.2.1 hz.2.2.1) ?_)
             clear hS; rintro _ _ w ⟨rfl, (⟨h_115, rfl⟩ | ⟨h_116, rfl⟩)⟩ hS
             ·
              exact absurd h_115 (sts_ne hnd (by omega) (by omega))
             ·
              replace hS : K.Sat w0 [g_86, go_71, go_87, g_2, fr] w := hS
              refine ⟨.inl (hS.pick [1]), ?_⟩
              refine K.DW.done (by kernel_rfl) ?_
              refine K.t (K.f (K.k ?_))
              refine K.blk_normal ?_
              refine K.t (K.g (K.q [K.iv ((k : Nat) : Int)] ?_))
              refine K.a (K.QR.n64 ((((k : Nat) : Int) : Int) + (1 : Int)) ((k + 1 : Nat) : Int) (by kernel_rfl) (by omega)) ?_
              refine K.q [K.iv ((k + 1 : Nat) : Int)] (K.z (K.t ?_))
              refine ⟨_, ?_, k + 1, rfl, ⟨by rfl, by rfl, by rfl, by rfl, by rfl, by rfl, trivial⟩, (by omega), hS.pick [1, 2, 0, 3, 4]⟩
              omega
            ·
             refine K.x ((((k : Nat) : Int) : Int) < (((i : Nat) : Int) : Int)) h_112 ?_
             refine K.z (K.t (K.f ?_))
             refine K.KW.exit ?_
             refine K.thn_exit ?_
             refine K.thn_exit ?_
             refine K.blk_hit ?_
             refine K.blk_normal ?_
             refine K.t (K.g (K.q [K.iv ((i : Nat) : Int)] ?_))
             refine K.a (K.QR.n64 ((((i : Nat) : Int) : Int) + (1 : Int)) ((i + 1 : Nat) : Int) (by kernel_rfl) (by omega)) ?_
             refine K.q [K.iv ((i + 1 : Nat) : Int)] (K.z (K.t ?_))
             refine ⟨_, ?_, i + 1, rfl, ⟨by rfl, by rfl, by rfl, by rfl, by rfl, trivial⟩, (by omega), hS.pick [0, 1, 2, 3, 4]⟩
             omega
          ·
           refine K.x ((((i : Nat) : Int) : Int) < (((Lr_74.length : Nat) : Int) : Int)) h_107 ?_
           refine K.z (K.t (K.f ?_))
           refine K.KW.exit ?_
           refine K.thn_exit ?_
           refine K.thn_exit ?_
           refine K.blk_hit ?_
           refine K.t (K.s (K.g ?_))
           refine K.l (K.OW.gcall hS [] [0, 1, 2, 3, 4] [] (awake25_ok _) ?_)
           clear hS; rintro _ _ w ⟨rfl, rfl⟩ hS
           replace hS : K.Sat w0 [go_71, go_87, g_86, g_2, fr] w := hS
           refine K.q [.bool true] (K.z (K.t (K.r ?_)))
           refine ⟨.inr rfl, rfl, (.bool true), K.res1 rfl rfl, [], ?_, hS.pick [4]⟩
           exact rfl
        ·
         exact absurd hinn.2 h_102
       ·
        exact absurd hinn.1 h_100
      ·
       exact absurd h2_14 h_85
     ·
      exact absurd h_13 h_83
   ·
    have hr_117 := x.mono hg_24
    replace hS : K.Sat w0 [g_23, g_2, fr] w := hS.of (by simp [K.pick, K.nth])
    refine K.q [.tuple #[.bool true, K.iv 0], .bool true, K.iv 0, .bool true, K.iv 0] (K.z (K.t (K.s (K.g ?_))))
    refine K.a (K.QR.ldN [.slice q S.q.length cq, .slice s S.s.length cs, .slice mm S.m.length cm] rfl rfl (by kernel_rfl) (by kernel_rfl) (K.cells (K.cl ((hS.blk 1 rfl hg_3).cell rfl) (K.cl ((hS.blk 1 rfl hg_3).cell rfl) (K.cl ((hS.blk 1 rfl hg_3).cell rfl) K.cl0))))) ?_
    refine K.q [.slice a L.length cap] ?_
    refine K.l (K.OW.gcall hS [0, 53] [1, 2] [.agg #[.slice q S.q.length cq, .slice s S.s.length cs, .slice mm S.m.length cm], .slice a L.length cap] (wends_ok _ _ _ L (by omega) _ (fun w h => ha.no h.chg) q s mm cq cs cm S (by omega) (by omega) _ hr_117 (by omega) (by omega) (by omega)) ?_)
    clear hS; rintro _ _ w (⟨h_118, rfl, rfl⟩ | ⟨h_119, h2_120, h3_121, g_122, go_123, ra_124, c_125, Lr_126, rfl, hg_127, rfl, o_128, hal_129, hsz_130, hst_131, hln_132⟩) hS
    ·
     exact h_118.elim (fun h9 => absurd h_19 h9) (fun h9 => h9.elim (fun h9 => absurd h2_20 h9) (fun h9 => by omega))
    ·
     have hr_133 := hr_117.mono hg_127
     replace hS : K.Sat w0 [g_122, go_123, g_2, fr] w := hS.of (by simp [K.pick, K.nth])
     refine K.q [.slice ra_124 Lr_126.length c_125] (K.z (K.t (K.s (K.s (K.g ?_)))))
     refine K.a (K.QR.ldN [.slice q S.q.length cq, .slice s S.s.length cs, .slice mm S.m.length cm] rfl rfl (by kernel_rfl) (by kernel_rfl) (K.cells (K.cl ((hS.blk 2 rfl hg_3).cell rfl) (K.cl ((hS.blk 2 rfl hg_3).cell rfl) (K.cl ((hS.blk 2 rfl hg_3).cell rfl) K.cl0))))) ?_
     refine K.l (K.OW.gcall hS [0] [1, 2, 3] [.agg #[.slice q S.q.length cq, .slice s S.s.length cs, .slice mm S.m.length cm]] (drightS_ok _ q s mm cq cs cm S _ hr_133 (by omega) (by omega)) ?_)
     clear hS; rintro _ _ w ⟨rfl, (⟨h_134, rfl⟩ | ⟨h_135, rfl⟩)⟩ hS
     ·
      replace hS : K.Sat w0 [g_122, go_123, g_2, fr] w := hS
      refine K.q [.bool false, .bool false, .slice a L.length cap] ?_
      refine K.l (K.OW.gcall hS [54] [0, 1, 2, 3] [.slice a L.length cap] (dhright_ok _ _ _ L (by omega) _ (fun w h => ha.no h.chg)) ?_)
      clear hS; rintro _ _ w ⟨rfl, (⟨h_136, rfl⟩ | ⟨h_137, rfl⟩)⟩ hS
      ·
       replace hS : K.Sat w0 [g_122, go_123, g_2, fr] w := hS.of (by simp [K.pick, K.nth])
       refine K.q [.bool false, .bool false] (K.z (K.t (K.f (K.k (K.t (K.s (K.g ?_)))))))
       refine K.a (K.QR.ldN [.slice q S.q.length cq, .slice s S.s.length cs, .slice mm S.m.length cm] rfl rfl (by kernel_rfl) (by kernel_rfl) (K.cells (K.cl ((hS.blk 2 rfl hg_3).cell rfl) (K.cl ((hS.blk 2 rfl hg_3).cell rfl) (K.cl ((hS.blk 2 rfl hg_3).cell rfl) K.cl0))))) ?_
       refine K.q [.slice a L.length cap] ?_
       refine K.l (K.OW.gcall hS [0, 54] [1, 2, 3] [.agg #[.slice q S.q.length cq, .slice s S.s.length cs, .slice mm S.m.length cm], .slice a L.length cap] (dends_ok _ _ _ L (by omega) _ (fun w h => ha.no h.chg) q s mm cq cs cm S (by omega) (by omega) _ hr_133 (by omega) (by omega) (by omega) (by omega) h_19 h2_20) ?_)
       clear hS; rintro _ _ w ⟨g_138, go_139, ra_140, c_141, Ld_142, rfl, hg_143, rfl, o_144, hal_145, hsz_146, hD_147, hln_148⟩ hS
       have hr_149 := hr_133.mono hg_143
       have hr_150 := AllRd.mono hal_129 hg_143
       replace hS : K.Sat w0 [g_138, go_139, go_123, g_2, fr] w := hS.of (by simp [K.pick, K.nth])
       refine K.q [.slice ra_140 Ld_142.length c_141] (K.z (K.t (K.s (K.s ?_))))
       have hLd := ends_some h2_20 h4_22 hD_147
       have hinn := ends_in h2_20 hst_131 hD_147
       refine K.g (K.q [K.iv 0, .bool false, .bool false, .bool true, .slice ra_140 Ld_142.length c_141] ?_)
       refine K.a (K.QR.len (P := Try.prog) rfl rfl Try.underlying42) ?_
       refine K.y ((((Ld_142.length : Nat) : Int) : Int) > (0 : Int)) ((by omega)) ?_
       refine K.q [.bool false, .bool false, .bool false, .slice ra_140 Ld_142.length c_141, .slice ra_124 Lr_126.length c_125] ?_
       refine K.l (K.OW.gcall hS [1, 2, 0] [3, 4] [.slice ra_140 Ld_142.length c_141, .slice ra_124 Lr_126.length c_125] (in25_ok _ ra_140 c_141 Ld_142 hln_148 _ (fun w h => K.RowE.len (K.Own.rowE dStE (h.ownr 0 rfl o_144) rfl (fun _ => rfl)) rfl) ra_124 c_125 Lr_126 hln_132 _ (fun w h => K.RowE.len (K.Own.rowE dStE (h.ownr 0 rfl o_128) rfl (fun _ => rfl)) rfl) _ hal_145 hr_150 hsz_130) ?_)
       clear hS; rintro _ _ w ⟨rfl, (⟨h_151, rfl⟩ | ⟨h_152, rfl⟩)⟩ hS
       ·
        replace hS : K.Sat w0 [go_139, go_123, g_138, g_2, fr] w := hS
        refine K.q [.bool false, .bool false, .bool false, .slice ra_124 Lr_126.length c_125, .slice ra_140 Ld_142.length c_141] ?_
        refine K.l (K.OW.gcall hS [1, 0, 2] [3, 4] [.slice ra_124 Lr_126.length c_125, .slice ra_140 Ld_142.length c_141] (in25_ok _ ra_124 c_125 Lr_126 hln_132 _ (fun w h => K.RowE.len (K.Own.rowE dStE (h.ownr 0 rfl o_128) rfl (fun _ => rfl)) rfl) ra_140 c_141 Ld_142 hln_148 _ (fun w h => K.RowE.len (K.Own.rowE dStE (h.ownr 0 rfl o_144) rfl (fun _ => rfl)) rfl) _ hr_150 hal_145 hsz_146) ?_)
        clear hS; rintro _ _ w ⟨rfl, (⟨h_153, rfl⟩ | ⟨h_154, rfl⟩)⟩ hS
        ·
         replace hS : K.Sat w0 [go_123, go_139, g_138, g_2, fr] w := hS
         refine K.q [.bool false, .bool false] (K.z (K.t (K.f (K.k (K.t (K.s (K.s (K.g (K.q [K.iv 0] (K.z (K.t ?_)))))))))))
         refine K.KW.block ?_
         refine K.KW.loop (fun m_ F_ w_ => ∃ (i : Nat), m_ = 100000001 - i ∧ K.Sl F_ [(0, .agg #[.slice q S.q.length cq, .slice s S.s.length cs, .slice mm S.m.length cm]), (1, .slice a L.length cap), (7, .slice ra_124 Lr_126.length c_125), (10, K.iv ((i : Nat) : Int)), (102, undef)] ∧ i ≤ Lr_126.length ∧ K.Sat w0 [go_123, go_139, g_138, g_2, fr] w_) ((fun (i : Nat) => 100000001 - i) 0) ?_ ?_
         ·
          exact ⟨0, rfl, ⟨by rfl, by rfl, by rfl, by rfl, by rfl, trivial⟩, (by omega), hS.pick [0, 1, 2, 3, 4]⟩
         ·
          clear hS
          intro m_155 F_156 w hI
          obtain ⟨i, rfl, sl_157, p_158, hS⟩ := hI
          rw [← K.Sl.puts sl_157]; clear sl_157
          refine K.s (K.s (K.g (K.q [K.iv ((i : Nat) : Int), .slice ra_124 Lr_126.length c_125] ?_)))
          refine K.a (K.QR.len (P := Try.prog) rfl rfl Try.underlying42) ?_
          by_cases h_159 : (((i : Nat) : Int) : Int) < (((Lr_126.length : Nat) : Int) : Int)
          ·
           refine K.y ((((i : Nat) : Int) : Int) < (((Lr_126.length : Nat) : Int) : Int)) h_159 ?_
           refine K.z (K.t (K.h (K.k (K.t (K.s ?_)))))
           refine K.KW.block ?_
           refine K.s (K.g (K.q [K.iv 0] (K.z (K.t ?_))))
           refine K.KW.block ?_
           refine K.KW.loop (fun m_ F_ w_ => ∃ (k : Nat), m_ = 100000001 - k ∧ K.Sl F_ [(0, .agg #[.slice q S.q.length cq, .slice s S.s.length cs, .slice mm S.m.length cm]), (1, .slice a L.length cap), (7, .slice ra_124 Lr_126.length c_125), (10, K.iv ((i : Nat) : Int)), (11, K.iv ((k : Nat) : Int)), (102, undef)] ∧ k ≤ i ∧ K.Sat w0 [go_123, go_139, g_138, g_2, fr] w_) ((fun (k : Nat) => 100000001 - k) 0) ?_ ?_
           ·
            exact ⟨0, rfl, ⟨by rfl, by rfl, by rfl, by rfl, by rfl, by rfl, trivial⟩, (by omega), hS.pick [0, 1, 2, 3, 4]⟩
           ·
            clear hS
            intro m_160 F_161 w hI
            obtain ⟨k, rfl, sl_162, p_163, hS⟩ := hI
            rw [← K.Sl.puts sl_162]; clear sl_162
            refine K.s (K.s (K.g (K.q [K.iv ((k : Nat) : Int), K.iv ((i : Nat) : Int)] ?_)))
            by_cases h_164 : (((k : Nat) : Int) : Int) < (((i : Nat) : Int) : Int)
            ·
             refine K.y ((((k : Nat) : Int) : Int) < (((i : Nat) : Int) : Int)) h_164 ?_
             refine K.z (K.t (K.h (K.k (K.t (K.s ?_)))))
             refine K.KW.block ?_
             refine K.s ?_
             obtain ⟨b_165, rfl⟩ := o_128.some_ (by have := o_128.le; omega)
             have hz := hsz_130 i (by omega)
             have hnd : (stsE Lr_126).Nodup := by rw [hst_131]; exact dedN_nodup
             refine K.KW.gdrawn [0] hS (by kernel_rfl) ?_
             clear hS; intro w hS
             refine K.p 0 rfl (.slice (some ⟨b_165, 0, none⟩) Lr_126.length c_125) (hS.pick [0]) ?_
             refine K.p 1 rfl (K.iv ((i : Nat) : Int)) (hS.pick [0]) ?_
             refine K.m 2 rfl (fun w hS => K.QR.ix (0 + i * 3) 3 rfl rfl rfl Try.underlying42 (by kernel_rfl) (by omega) (by first | (simp; done) | omega | (simp; omega))) (hS.pick [0]) ?_
             refine K.m 3 rfl (fun w hS => K.QR.ldN [.slice ((Lr_126.getD i dStE).q) ((Lr_126.getD i dStE).S.q.length) ((Lr_126.getD i dStE).cq), .slice ((Lr_126.getD i dStE).s) ((Lr_126.getD i dStE).S.s.length) ((Lr_126.getD i dStE).cs), .slice ((Lr_126.getD i dStE).m) ((Lr_126.getD i dStE).S.m.length) ((Lr_126.getD i dStE).cm)] rfl rfl (by kernel_rfl) (by kernel_rfl) (K.cells (K.cl ((K.Own.rowE dStE (hS.ownr 0 rfl o_128) rfl (fun _ => rfl)).ld i (by omega) 0 _ rfl) (K.cl ((K.Own.rowE dStE (hS.ownr 0 rfl o_128) rfl (fun _ => rfl)).ld i (by omega) 1 _ rfl) (K.cl ((K.Own.rowE dStE (hS.ownr 0 rfl o_128) rfl (fun _ => rfl)).ld i (by omega) 2 _ rfl) K.cl0))))) (hS.pick [0]) ?_
             refine K.p 4 rfl (.slice (some ⟨b_165, 0, none⟩) Lr_126.length c_125) (hS.pick [0]) ?_
             refine K.b 5 rfl (K.iv ((k : Nat) : Int)) (hS.pick [0]) ?_
             refine K.c 6 rfl (K.QR.ix (0 + k * 3) 3 rfl rfl rfl Try.underlying42 (by kernel_rfl) (by omega) (by first | (simp; done) | omega | (simp; omega))) (hS.pick [0]) ?_
             refine K.c 7 rfl (K.QR.ldN [.slice ((Lr_126.getD k dStE).q) ((Lr_126.getD k dStE).S.q.length) ((Lr_126.getD k dStE).cq), .slice ((Lr_126.getD k dStE).s) ((Lr_126.getD k dStE).S.s.length) ((Lr_126.getD k dStE).cs), .slice ((Lr_126.getD k dStE).m) ((Lr_126.getD k dStE).S.m.length) ((Lr_126.getD k dStE).cm)] rfl rfl (by kernel_rfl) (by kernel_rfl) (K.cells (K.cl ((K.Own.rowE dStE (hS.ownr 0 rfl o_128) rfl (fun _ => rfl)).ld k (by omega) 0 _ rfl) (K.cl ((K.Own.rowE dStE (hS.ownr 0 rfl o_128) rfl (fun _ => rfl)).ld k (by omega) 1 _ rfl) (K.cl ((K.Own.rowE dStE (hS.ownr 0 rfl o_128) rfl (fun _ => rfl)).ld k (by omega) 2 _ rfl) K.cl0))))) (hS.pick [0]) ?_
             refine K.DW.l 8 rfl (by kernel_rfl) rfl (K.OW.gcall hS [2] [0, 1, 3, 4] [.agg #[.slice ((Lr_126.getD i dStE).q) ((Lr_126.getD i dStE).S.q.length) ((Lr_126.getD i dStE).cq), .slice ((Lr_126.getD i dStE).s) ((Lr_126.getD i dStE).S.s.length) ((Lr_126.getD i dStE).cs), .slice ((Lr_126.getD i dStE).m) ((Lr_126.getD i dStE).S.m.length) ((Lr_126.getD i dStE).cm)], .agg #[.slice ((Lr_126.getD k dStE).q) ((Lr_126.getD k dStE).S.q.length) ((Lr_126.getD k dStE).cq), .slice ((Lr_126.getD k dStE).s) ((Lr_126.getD k dStE).S.s.length) ((Lr_126.getD k dStE).cs), .slice ((Lr_126.getD k dStE).m) ((Lr_126.getD k dStE).S.m.length) ((Lr_126.getD k dStE).cm)]] (sameS_ok _ (Lr_126.getD i dStE).q (Lr_126.getD i dStE).s (Lr_126.getD i dStE).m (Lr_126.getD k dStE).q (Lr_126.getD k dStE).s (Lr_126.getD k dStE).m ((Lr_126.getD i dStE).cq) ((Lr_126.getD i dStE).cs) ((Lr_126.getD i dStE).cm) ((Lr_126.getD k dStE).cq) ((Lr_126.getD k dStE).cs) ((Lr_126.getD k dStE).cm) ((Lr_126.getD i dStE).S) ((Lr_126.getD k dStE).S) _ (hr_150 i (by omega)) (hr_150 k (by omega)) hz.1 hz.2.1 hz.2.2.1) ?_)
             clear hS; rintro _ _ w ⟨rfl, (⟨h_167, rfl⟩ | ⟨h_168, rfl⟩)⟩ hS
             ·
              exact absurd h_167 (sts_ne hnd (by omega) (by omega))
             ·
              replace hS : K.Sat w0 [g_138, go_123, go_139, g_2, fr] w := hS
              refine ⟨.inl (hS.pick [1]), ?_⟩
              refine K.DW.done (by kernel_rfl) ?_
              refine K.t (K.f (K.k ?_))
              refine K.blk_normal ?_
              refine K.t (K.g (K.q [K.iv ((k : Nat) : Int)] ?_))
              refine K.a (K.QR.n64 ((((k : Nat) : Int) : Int) + (1 : Int)) ((k + 1 : Nat) : Int) (by kernel_rfl) (by omega)) ?_
              refine K.q [K.iv ((k + 1 : Nat) : Int)] (K.z (K.t ?_))
              refine ⟨_, ?_, k + 1, rfl, ⟨by rfl, by rfl, by rfl, by rfl, by rfl, by rfl, trivial⟩, (by omega), hS.pick [1, 2, 0, 3, 4]⟩
              omega
            ·
             refine K.x ((((k : Nat) : Int) : Int) < (((i : Nat) : Int) : Int)) h_164 ?_
             refine K.z (K.t (K.f ?_))
             refine K.KW.exit ?_
             refine K.thn_exit ?_
             refine K.thn_exit ?_
             refine K.blk_hit ?_
             refine K.blk_normal ?_
             refine K.t (K.g (K.q [K.iv ((i : Nat) : Int)] ?_))
             refine K.a (K.QR.n64 ((((i : Nat) : Int) : Int) + (1 : Int)) ((i + 1 : Nat) : Int) (by kernel_rfl) (by omega)) ?_
             refine K.q [K.iv ((i + 1 : Nat) : Int)] (K.z (K.t ?_))
             refine ⟨_, ?_, i + 1, rfl, ⟨by rfl, by rfl, by rfl, by rfl, by rfl, trivial⟩, (by omega), hS.pick [0, 1, 2, 3, 4]⟩
             omega
          ·
           refine K.x ((((i : Nat) : Int) : Int) < (((Lr_126.length : Nat) : Int) : Int)) h_159 ?_
           refine K.z (K.t (K.f ?_))
           refine K.KW.exit ?_
           refine K.thn_exit ?_
           refine K.thn_exit ?_
           refine K.blk_hit ?_
           refine K.t (K.s (K.g ?_))
           refine K.l (K.OW.gcall hS [] [0, 1, 2, 3, 4] [] (awake25_ok _) ?_)
           clear hS; rintro _ _ w ⟨rfl, rfl⟩ hS
           replace hS : K.Sat w0 [go_123, go_139, g_138, g_2, fr] w := hS
           refine K.q [.bool true] (K.z (K.t (K.r ?_)))
           refine ⟨.inr rfl, rfl, (.bool true), K.res1 rfl rfl, [], ?_, hS.pick [4]⟩
           exact rfl
        ·
         exact absurd hinn.2 h_154
       ·
        exact absurd hinn.1 h_152
      ·
       exact absurd h2_20 h_137
     ·
      exact absurd h_19 h_135
 ·
  replace hS : K.Sat w0 [g_2, g, fr] w := hS
  refine K.q [.bool true, .bool true] (K.n_ (K.n_ (K.n_ (K.q [.bool true] (K.z (K.t (K.h (K.s (K.g ?_)))))))))
  refine K.l (K.OW.gcall hS [] [0, 1, 2] [] (awake25_ok _) ?_)
  clear hS; rintro _ _ w ⟨rfl, rfl⟩ hS
  replace hS : K.Sat w0 [g_2, g, fr] w := hS
  refine K.q [.bool true] (K.z (K.t (K.r (K.u ?_))))
  refine ⟨.inr rfl, rfl, (.bool true), K.res1 rfl rfl, [], ?_, hS.pick [2]⟩
  exact rfl
end Go.Proofs.Ytnehocjmgnhhhaa
