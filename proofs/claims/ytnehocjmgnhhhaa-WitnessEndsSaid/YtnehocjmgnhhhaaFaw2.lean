import Derived.Test.YtnehocjmgnhhhaaFck2
import Derived.Test.YtnehocjmgnhhhaaKn
/- Witness: the example, plain. -/
namespace Go.Proofs.Ytnehocjmgnhhhaa
open Go.RowKit
set_option linter.unusedVariables false
attribute [local irreducible] K.KW K.RW K.DW K.OW K.QR K.KC
def awL1 : List CallM := [⟨0, 3, 4, 0, 1, 0, 0, 5, 3, false, false⟩, ⟨1, 5, 4, 0, 4, 0, 1, 6, 2, false, false⟩]
def awL2 : List CallM := [⟨0, 3, 4, 0, 1, 0, 0, 5, 3, false, false⟩, ⟨1, 5, 4, 0, 3, 0, 1, 6, 2, false, false⟩]
theorem rd0 (w0 : World) : RdSt w0 [] none none none 0 st0 := ⟨fun _ _ => K.RowE.zero _ _ _ _, fun _ _ => K.RowE.zero _ _ _ _, fun _ _ => K.RowE.zero _ _ _ _, Nat.le_refl _⟩
theorem ok0 : okS st0 := ⟨fun i h => by simp [st0] at h, fun i h => by simp [st0, keysP] at h⟩
theorem lin_aw (w0 : World) (a : Option Addr) (cap : Nat) (L : List CallM) (hm : L.length ≤ 1000000) (gx : K.Cs) (hx : ∀ w, K.Sat w0 [gx] w → K.RowE w a L.length 11 (fun i => cCall (L.getD i call0))) (hr : rightH L) (hl : L.length ≤ 8) (he : (endsN L ((List.replicate L.length false).count false + 1) st0 (List.replicate L.length false)).isEmpty = false) :
  K.GC Try.prog w0 18 #[.agg #[.slice none 0 0, .slice none 0 0, .slice none 0 0], .slice a L.length cap] [[], gx] (fun v post => ∃ g', post = [g', gx] ∧ v = .tuple #[.bool true, K.iv 0]) := by
 refine K.GC.mono (linear_ok w0 a cap L hm gx hx none none none 0 0 0 st0 (by decide) (by decide) [] (rd0 w0) (by decide) (by decide) (by decide)) ?_
 rintro v post (⟨h, _⟩ | ⟨_, h, _⟩ | ⟨_, _, h, _⟩ | ⟨_, _, _, h, _⟩ | ⟨_, _, _, _, g', hp, _, hv⟩)
 ·exact absurd ok0 h
 ·exact absurd hr h
 ·omega
 ·rw [h] at he; cases he
 ·exact ⟨g', hp, hv⟩
theorem chk_aw1 (w0 : World) (a : Option Addr) (cap : Nat) (L : List CallM) (hm : L.length ≤ 1000000) (gx : K.Cs) (hx : ∀ w, K.Sat w0 [gx] w → K.RowE w a L.length 11 (fun i => cCall (L.getD i call0))) (hr : rightH L) (hl : L.length ≤ 100) (Q : List Int) (hQ : isOrd L Q) (hrs : rspP L Q) (he : (runN L st0 Q).isSome = true) :
  K.GC Try.prog w0 13 #[.agg #[.slice none 0 0, .slice none 0 0, .slice none 0 0], .slice a L.length cap] [[], gx] (fun v post => ∃ g' q s m n1 n2 n3 cq cs cm, post = [g', gx] ∧ v = .tuple #[.agg #[.slice q n1 cq, .slice s n2 cs, .slice m n3 cm], K.iv 0]) := by
 refine K.GC.mono (check_ok w0 a cap L hm gx hx none none none 0 0 0 st0 (by decide) (by decide) [] (rd0 w0) hl (by decide) (by decide) (by decide)) ?_
 rintro v post ⟨g', hp, _, ⟨h, _⟩ | ⟨_, h, _⟩ | ⟨_, _, Q', hQ', _, h, _⟩ | ⟨_, _, Q', hQ', _, _, T, q, cq, s, cs, m, cm, _, _, hv, _⟩⟩
 ·exact absurd ok0 h
 ·exact absurd hr h
 ·obtain rfl := hQ.uniq hQ'
  rcases h with h | h
  ·exact absurd hrs h
  ·rw [h] at he; cases he
 ·exact ⟨g', q, s, m, _, _, _, cq, cs, cm, hp, hv⟩
theorem chk_aw2 (w0 : World) (a : Option Addr) (cap : Nat) (L : List CallM) (hm : L.length ≤ 1000000) (gx : K.Cs) (hx : ∀ w, K.Sat w0 [gx] w → K.RowE w a L.length 11 (fun i => cCall (L.getD i call0))) (hr : rightH L) (hl : L.length ≤ 100) (Q : List Int) (hQ : isOrd L Q) (he : (runN L st0 Q).isNone = true) :
  K.GC Try.prog w0 13 #[.agg #[.slice none 0 0, .slice none 0 0, .slice none 0 0], .slice a L.length cap] [[], gx] (fun v post => ∃ g', post = [g', gx] ∧ v = .tuple #[.agg #[.slice none 0 0, .slice none 0 0, .slice none 0 0], K.iv 9]) := by
 refine K.GC.mono (check_ok w0 a cap L hm gx hx none none none 0 0 0 st0 (by decide) (by decide) [] (rd0 w0) hl (by decide) (by decide) (by decide)) ?_
 rintro v post ⟨g', hp, _, ⟨h, _⟩ | ⟨_, h, _⟩ | ⟨_, _, Q', hQ', _, _, h⟩ | ⟨_, _, Q', hQ', _, _, T, q, cq, s, cs, m, cm, h, _⟩⟩
 ·exact absurd ok0 h
 ·exact absurd hr h
 ·exact ⟨g', hp, h⟩
 ·obtain rfl := hQ.uniq hQ'
  rw [h] at he; cases he
theorem aw_right1 : rightH awL1 := by
 intro i hi
 have hi : i < 2 := hi
 obtain rfl | rfl : i = 0 ∨ i = 1 := by omega
 ·exact ⟨⟨by decide, .inr ⟨rfl, by unfold answeredH canK valdK looksK; decide⟩⟩, .inl rfl, fun c h => by cases h⟩
 ·exact ⟨⟨by decide, .inr ⟨rfl, by unfold answeredH canK valdK looksK; decide⟩⟩, .inr (by decide), fun c h => by cases h⟩
theorem aw_right2 : rightH awL2 := by
 intro i hi
 have hi : i < 2 := hi
 obtain rfl | rfl : i = 0 ∨ i = 1 := by omega
 ·exact ⟨⟨by decide, .inr ⟨rfl, by unfold answeredH canK valdK looksK; decide⟩⟩, .inl rfl, fun c h => by cases h⟩
 ·exact ⟨⟨by decide, .inr ⟨rfl, by unfold answeredH canK valdK looksK; decide⟩⟩, .inr (by decide), fun c h => by cases h⟩
theorem aw_ord1 : isOrd awL1 [1, 0] := ⟨fun x => by rw [show tookT awL1 = [0, 1] by kernel_rfl]; simp; omega, by
 rw [List.pairwise_cons]; exact ⟨fun y hy => by simp at hy; subst hy; exact .inl (by decide), by simp⟩⟩
theorem aw_ord2 : isOrd awL2 [1, 0] := ⟨fun x => by rw [show tookT awL2 = [0, 1] by kernel_rfl]; simp; omega, by
 rw [List.pairwise_cons]; exact ⟨fun y hy => by simp at hy; subst hy; exact .inl (by decide), by simp⟩⟩
theorem aw_rsp : rspP awL1 [1, 0] := by
 intro i hi
 have hi : i < 2 := hi
 obtain rfl | rfl : i = 0 ∨ i = 1 := by omega
 ·exact ⟨by decide, fun k h => by omega⟩
 ·exact ⟨by decide, fun k h => (by obtain rfl : k = 0 := (by omega); exact (by unfold aheadH; decide))⟩
end Go.Proofs.Ytnehocjmgnhhhaa

/- Witness: the example. -/
namespace Go.Proofs.Ytnehocjmgnhhhaa
open Go.RowKit
set_option linter.unusedVariables false
attribute [local irreducible] K.KW K.RW K.DW K.OW K.QR K.KC
set_option maxHeartbeats 8000000 in
set_option maxRecDepth 100000 in
theorem awake25_ok (w0 : World)  :
  K.GC Try.prog w0 7 #[] [] (fun v post => v = .bool true ∧ post = []) := by
 refine K.GC.mk (n := 71) Try.func7 rfl rfl [] rfl rfl ?_
 intro fr w hS
 replace hS : K.Sat w0 [fr] w := hS
 refine K.s (K.g (K.q [.bool false] (K.z (K.t (K.s (K.g ?_))))))
 refine K.a (K.QR.bd [(0, K.iv 3), (1, .int .u32 4)] [K.iv 3, .int .u32 4, .int .u32 0] rfl rfl (by kernel_rfl)) ?_
 refine K.a (K.QR.bd [(0, K.iv 1)] [K.iv 1, .int .u32 0] rfl rfl (by kernel_rfl)) ?_
 refine K.a (K.QR.bd [(1, .agg #[K.iv 3, .int .u32 4, .int .u32 0]), (2, .agg #[K.iv 1, .int .u32 0]), (3, K.iv 0), (5, K.iv 3), (4, K.iv 5)] [K.iv 0, K.iv 3, .int .u32 4, .int .u32 0, K.iv 1, .int .u32 0, K.iv 0, K.iv 5, K.iv 3, .bool false, .bool false] rfl rfl (by kernel_rfl)) ?_
 refine K.l (K.OW.gnew 51 [K.iv 0, K.iv 0, .int .u32 0, .int .u32 0, K.iv 0, .int .u32 0, K.iv 0, K.iv 0, K.iv 0, .bool false, .bool false] hS ?_)
 clear hS; intro w r_1 g_2 hg_3 hS
 refine K.l (K.OW.gst 0 [K.iv 0, K.iv 3, .int .u32 4, .int .u32 0, K.iv 1, .int .u32 0, K.iv 0, K.iv 5, K.iv 3, .bool false, .bool false] _ hS hg_3 ?_)
 clear hS; intro w g_4 hg_5 hS
 replace hS : K.Sat w0 [g_4, fr] w := hS
 refine K.z (K.t (K.s (K.g ?_)))
 refine K.a (K.QR.bd [(0, K.iv 5), (1, .int .u32 4)] [K.iv 5, .int .u32 4, .int .u32 0] rfl rfl (by kernel_rfl)) ?_
 refine K.a (K.QR.bd [(0, K.iv 4)] [K.iv 4, .int .u32 0] rfl rfl (by kernel_rfl)) ?_
 refine K.a (K.QR.bd [(0, K.iv 1), (1, .agg #[K.iv 5, .int .u32 4, .int .u32 0]), (2, .agg #[K.iv 4, .int .u32 0]), (3, K.iv 1), (5, K.iv 2), (4, K.iv 6)] [K.iv 1, K.iv 5, .int .u32 4, .int .u32 0, K.iv 4, .int .u32 0, K.iv 1, K.iv 6, K.iv 2, .bool false, .bool false] rfl rfl (by kernel_rfl)) ?_
 refine K.l (K.OW.gnew 51 [K.iv 0, K.iv 0, .int .u32 0, .int .u32 0, K.iv 0, .int .u32 0, K.iv 0, K.iv 0, K.iv 0, .bool false, .bool false] hS ?_)
 clear hS; intro w r_6 g_7 hg_8 hS
 refine K.l (K.OW.gst 0 [K.iv 1, K.iv 5, .int .u32 4, .int .u32 0, K.iv 4, .int .u32 0, K.iv 1, K.iv 6, K.iv 2, .bool false, .bool false] _ hS hg_8 ?_)
 clear hS; intro w g_9 hg_10 hS
 replace hS : K.Sat w0 [g_9, g_4, fr] w := hS
 refine K.z (K.t (K.s (K.g ?_)))
 refine K.a (K.QR.bd [] [.slice none 0 0, .slice none 0 0, .slice none 0 0] rfl rfl (by kernel_rfl)) ?_
 refine K.a (K.QR.ldN [K.iv 0, K.iv 3, .int .u32 4, .int .u32 0, K.iv 1, .int .u32 0, K.iv 0, K.iv 5, K.iv 3, .bool false, .bool false] rfl rfl (by kernel_rfl) (by kernel_rfl) (K.cells (K.cl ((hS.blk 1 rfl hg_5).cell rfl) (K.cl ((hS.blk 1 rfl hg_5).cell rfl) (K.cl ((hS.blk 1 rfl hg_5).cell rfl) (K.cl ((hS.blk 1 rfl hg_5).cell rfl) (K.cl ((hS.blk 1 rfl hg_5).cell rfl) (K.cl ((hS.blk 1 rfl hg_5).cell rfl) (K.cl ((hS.blk 1 rfl hg_5).cell rfl) (K.cl ((hS.blk 1 rfl hg_5).cell rfl) (K.cl ((hS.blk 1 rfl hg_5).cell rfl) (K.cl ((hS.blk 1 rfl hg_5).cell rfl) (K.cl ((hS.blk 1 rfl hg_5).cell rfl) K.cl0))))))))))))) ?_
 refine K.a (K.QR.ldN [K.iv 1, K.iv 5, .int .u32 4, .int .u32 0, K.iv 4, .int .u32 0, K.iv 1, K.iv 6, K.iv 2, .bool false, .bool false] rfl rfl (by kernel_rfl) (by kernel_rfl) (K.cells (K.cl ((hS.blk 0 rfl hg_10).cell rfl) (K.cl ((hS.blk 0 rfl hg_10).cell rfl) (K.cl ((hS.blk 0 rfl hg_10).cell rfl) (K.cl ((hS.blk 0 rfl hg_10).cell rfl) (K.cl ((hS.blk 0 rfl hg_10).cell rfl) (K.cl ((hS.blk 0 rfl hg_10).cell rfl) (K.cl ((hS.blk 0 rfl hg_10).cell rfl) (K.cl ((hS.blk 0 rfl hg_10).cell rfl) (K.cl ((hS.blk 0 rfl hg_10).cell rfl) (K.cl ((hS.blk 0 rfl hg_10).cell rfl) (K.cl ((hS.blk 0 rfl hg_10).cell rfl) K.cl0))))))))))))) ?_
 refine K.l (K.OW.gbs [(0, .agg #[K.iv 0, K.iv 3, .int .u32 4, .int .u32 0, K.iv 1, .int .u32 0, K.iv 0, K.iv 5, K.iv 3, .bool false, .bool false]), (1, .agg #[K.iv 1, K.iv 5, .int .u32 4, .int .u32 0, K.iv 4, .int .u32 0, K.iv 1, K.iv 6, K.iv 2, .bool false, .bool false])] [K.iv 0, K.iv 3, .int .u32 4, .int .u32 0, K.iv 1, .int .u32 0, K.iv 0, K.iv 5, K.iv 3, .bool false, .bool false, K.iv 1, K.iv 5, .int .u32 4, .int .u32 0, K.iv 4, .int .u32 0, K.iv 1, K.iv 6, K.iv 2, .bool false, .bool false] hS (fun w => K.bs_run (P := Try.prog) w 22 51 2 _ _ Try.underlying22 (by kernel_rfl)) ?_)
 clear hS; intro w r_11 g_12 hg_13 hS
 refine K.l (K.OW.gcall hS [54, 0] [1, 2, 3] [.agg #[.slice none 0 0, .slice none 0 0, .slice none 0 0], .slice (some ⟨r_11, 0, none⟩) 2 2] (lin_aw _ _ _ [(⟨0, 3, 4, 0, 1, 0, 0, 5, 3, false, false⟩ : CallM), (⟨1, 5, 4, 0, 4, 0, 1, 6, 2, false, false⟩ : CallM)] (by decide) _ (fun w h => K.Blk.rowE (c := cCall) call0 (L := [(⟨0, 3, 4, 0, 1, 0, 0, 5, 3, false, false⟩ : CallM), (⟨1, 5, 4, 0, 4, 0, 1, 6, 2, false, false⟩ : CallM)]) (h.blk 0 rfl hg_13) (fun _ => rfl) rfl) aw_right1 (by decide) (by kernel_rfl)) ?_)
 clear hS; rintro _ _ w ⟨g_14, rfl, rfl⟩ hS
 replace hS : K.Sat w0 [g_14, g_12, g_9, g_4, fr] w := hS.of (by simp [K.pick, K.nth])
 refine K.q [.tuple #[.bool true, K.iv 0], .bool true, K.iv 0, .bool true, K.iv 0] (K.z (K.t (K.s (K.g ?_))))
 refine K.a (K.QR.bd [] [.slice none 0 0, .slice none 0 0, .slice none 0 0] rfl rfl (by kernel_rfl)) ?_
 refine K.a (K.QR.ldN [K.iv 0, K.iv 3, .int .u32 4, .int .u32 0, K.iv 1, .int .u32 0, K.iv 0, K.iv 5, K.iv 3, .bool false, .bool false] rfl rfl (by kernel_rfl) (by kernel_rfl) (K.cells (K.cl ((hS.blk 3 rfl hg_5).cell rfl) (K.cl ((hS.blk 3 rfl hg_5).cell rfl) (K.cl ((hS.blk 3 rfl hg_5).cell rfl) (K.cl ((hS.blk 3 rfl hg_5).cell rfl) (K.cl ((hS.blk 3 rfl hg_5).cell rfl) (K.cl ((hS.blk 3 rfl hg_5).cell rfl) (K.cl ((hS.blk 3 rfl hg_5).cell rfl) (K.cl ((hS.blk 3 rfl hg_5).cell rfl) (K.cl ((hS.blk 3 rfl hg_5).cell rfl) (K.cl ((hS.blk 3 rfl hg_5).cell rfl) (K.cl ((hS.blk 3 rfl hg_5).cell rfl) K.cl0))))))))))))) ?_
 refine K.a (K.QR.ldN [K.iv 1, K.iv 5, .int .u32 4, .int .u32 0, K.iv 4, .int .u32 0, K.iv 1, K.iv 6, K.iv 2, .bool false, .bool false] rfl rfl (by kernel_rfl) (by kernel_rfl) (K.cells (K.cl ((hS.blk 2 rfl hg_10).cell rfl) (K.cl ((hS.blk 2 rfl hg_10).cell rfl) (K.cl ((hS.blk 2 rfl hg_10).cell rfl) (K.cl ((hS.blk 2 rfl hg_10).cell rfl) (K.cl ((hS.blk 2 rfl hg_10).cell rfl) (K.cl ((hS.blk 2 rfl hg_10).cell rfl) (K.cl ((hS.blk 2 rfl hg_10).cell rfl) (K.cl ((hS.blk 2 rfl hg_10).cell rfl) (K.cl ((hS.blk 2 rfl hg_10).cell rfl) (K.cl ((hS.blk 2 rfl hg_10).cell rfl) (K.cl ((hS.blk 2 rfl hg_10).cell rfl) K.cl0))))))))))))) ?_
 refine K.l (K.OW.gbs [(0, .agg #[K.iv 0, K.iv 3, .int .u32 4, .int .u32 0, K.iv 1, .int .u32 0, K.iv 0, K.iv 5, K.iv 3, .bool false, .bool false]), (1, .agg #[K.iv 1, K.iv 5, .int .u32 4, .int .u32 0, K.iv 4, .int .u32 0, K.iv 1, K.iv 6, K.iv 2, .bool false, .bool false])] [K.iv 0, K.iv 3, .int .u32 4, .int .u32 0, K.iv 1, .int .u32 0, K.iv 0, K.iv 5, K.iv 3, .bool false, .bool false, K.iv 1, K.iv 5, .int .u32 4, .int .u32 0, K.iv 4, .int .u32 0, K.iv 1, K.iv 6, K.iv 2, .bool false, .bool false] hS (fun w => K.bs_run (P := Try.prog) w 22 51 2 _ _ Try.underlying22 (by kernel_rfl)) ?_)
 clear hS; intro w r_15 g_16 hg_17 hS
 refine K.l (K.OW.gcall hS [56, 0] [1, 2, 3, 4, 5] [.agg #[.slice none 0 0, .slice none 0 0, .slice none 0 0], .slice (some ⟨r_15, 0, none⟩) 2 2] (chk_aw1 _ _ _ [(⟨0, 3, 4, 0, 1, 0, 0, 5, 3, false, false⟩ : CallM), (⟨1, 5, 4, 0, 4, 0, 1, 6, 2, false, false⟩ : CallM)] (by decide) _ (fun w h => K.Blk.rowE (c := cCall) call0 (L := [(⟨0, 3, 4, 0, 1, 0, 0, 5, 3, false, false⟩ : CallM), (⟨1, 5, 4, 0, 4, 0, 1, 6, 2, false, false⟩ : CallM)]) (h.blk 0 rfl hg_17) (fun _ => rfl) rfl) aw_right1 (by decide) _ aw_ord1 aw_rsp (by kernel_rfl)) ?_)
 clear hS; rintro _ _ w ⟨g_18, q_19, s_20, m_21, n1_22, n2_23, n3_24, cq_25, cs_26, cm_27, rfl, rfl⟩ hS
 replace hS : K.Sat w0 [g_18, g_16, g_14, g_12, g_9, g_4, fr] w := hS.of (by simp [K.pick, K.nth])
 refine K.q [.tuple #[.agg #[.slice q_19 n1_22 cq_25, .slice s_20 n2_23 cs_26, .slice m_21 n3_24 cm_27], K.iv 0], .agg #[.slice q_19 n1_22 cq_25, .slice s_20 n2_23 cs_26, .slice m_21 n3_24 cm_27], K.iv 0] ?_
 refine K.l (K.OW.gnew 30 [.slice none 0 0, .slice none 0 0, .slice none 0 0] hS ?_)
 clear hS; intro w r_28 g_29 hg_30 hS
 refine K.l (K.OW.gst 0 [.slice q_19 n1_22 cq_25, .slice s_20 n2_23 cs_26, .slice m_21 n3_24 cm_27] _ hS hg_30 ?_)
 clear hS; intro w g_31 hg_32 hS
 replace hS : K.Sat w0 [g_31, g_18, g_16, g_14, g_12, g_9, g_4, fr] w := hS
 refine K.q [K.iv 0] (K.z (K.t (K.s (K.g (K.q [.pointer (some ⟨r_6, 4, none⟩), .pointer (some ⟨r_6, 4, none⟩)] ?_)))))
 refine K.l (K.OW.gst 5 [K.iv 3] _ hS hg_10 ?_)
 clear hS; intro w g_33 hg_34 hS
 replace hS : K.Sat w0 [g_31, g_18, g_16, g_14, g_12, g_33, g_4, fr] w := hS
 refine K.z (K.t (K.s (K.g ?_)))
 refine K.a (K.QR.bd [] [.slice none 0 0, .slice none 0 0, .slice none 0 0] rfl rfl (by kernel_rfl)) ?_
 refine K.a (K.QR.ldN [K.iv 0, K.iv 3, .int .u32 4, .int .u32 0, K.iv 1, .int .u32 0, K.iv 0, K.iv 5, K.iv 3, .bool false, .bool false] rfl rfl (by kernel_rfl) (by kernel_rfl) (K.cells (K.cl ((hS.blk 6 rfl hg_5).cell rfl) (K.cl ((hS.blk 6 rfl hg_5).cell rfl) (K.cl ((hS.blk 6 rfl hg_5).cell rfl) (K.cl ((hS.blk 6 rfl hg_5).cell rfl) (K.cl ((hS.blk 6 rfl hg_5).cell rfl) (K.cl ((hS.blk 6 rfl hg_5).cell rfl) (K.cl ((hS.blk 6 rfl hg_5).cell rfl) (K.cl ((hS.blk 6 rfl hg_5).cell rfl) (K.cl ((hS.blk 6 rfl hg_5).cell rfl) (K.cl ((hS.blk 6 rfl hg_5).cell rfl) (K.cl ((hS.blk 6 rfl hg_5).cell rfl) K.cl0))))))))))))) ?_
 refine K.a (K.QR.ldN [K.iv 1, K.iv 5, .int .u32 4, .int .u32 0, K.iv 3, .int .u32 0, K.iv 1, K.iv 6, K.iv 2, .bool false, .bool false] rfl rfl (by kernel_rfl) (by kernel_rfl) (K.cells (K.cl ((hS.blk 5 rfl hg_34).cell rfl) (K.cl ((hS.blk 5 rfl hg_34).cell rfl) (K.cl ((hS.blk 5 rfl hg_34).cell rfl) (K.cl ((hS.blk 5 rfl hg_34).cell rfl) (K.cl ((hS.blk 5 rfl hg_34).cell rfl) (K.cl ((hS.blk 5 rfl hg_34).cell rfl) (K.cl ((hS.blk 5 rfl hg_34).cell rfl) (K.cl ((hS.blk 5 rfl hg_34).cell rfl) (K.cl ((hS.blk 5 rfl hg_34).cell rfl) (K.cl ((hS.blk 5 rfl hg_34).cell rfl) (K.cl ((hS.blk 5 rfl hg_34).cell rfl) K.cl0))))))))))))) ?_
 refine K.l (K.OW.gbs [(0, .agg #[K.iv 0, K.iv 3, .int .u32 4, .int .u32 0, K.iv 1, .int .u32 0, K.iv 0, K.iv 5, K.iv 3, .bool false, .bool false]), (1, .agg #[K.iv 1, K.iv 5, .int .u32 4, .int .u32 0, K.iv 3, .int .u32 0, K.iv 1, K.iv 6, K.iv 2, .bool false, .bool false])] [K.iv 0, K.iv 3, .int .u32 4, .int .u32 0, K.iv 1, .int .u32 0, K.iv 0, K.iv 5, K.iv 3, .bool false, .bool false, K.iv 1, K.iv 5, .int .u32 4, .int .u32 0, K.iv 3, .int .u32 0, K.iv 1, K.iv 6, K.iv 2, .bool false, .bool false] hS (fun w => K.bs_run (P := Try.prog) w 22 51 2 _ _ Try.underlying22 (by kernel_rfl)) ?_)
 clear hS; intro w r_35 g_36 hg_37 hS
 refine K.l (K.OW.gcall hS [59, 0] [1, 2, 3, 4, 5, 6, 7, 8] [.agg #[.slice none 0 0, .slice none 0 0, .slice none 0 0], .slice (some ⟨r_35, 0, none⟩) 2 2] (lin_aw _ _ _ [(⟨0, 3, 4, 0, 1, 0, 0, 5, 3, false, false⟩ : CallM), (⟨1, 5, 4, 0, 3, 0, 1, 6, 2, false, false⟩ : CallM)] (by decide) _ (fun w h => K.Blk.rowE (c := cCall) call0 (L := [(⟨0, 3, 4, 0, 1, 0, 0, 5, 3, false, false⟩ : CallM), (⟨1, 5, 4, 0, 3, 0, 1, 6, 2, false, false⟩ : CallM)]) (h.blk 0 rfl hg_37) (fun _ => rfl) rfl) aw_right2 (by decide) (by kernel_rfl)) ?_)
 clear hS; rintro _ _ w ⟨g_38, rfl, rfl⟩ hS
 replace hS : K.Sat w0 [g_38, g_36, g_31, g_18, g_16, g_14, g_12, g_33, g_4, fr] w := hS.of (by simp [K.pick, K.nth])
 refine K.q [.tuple #[.bool true, K.iv 0], .bool true, K.iv 0, .bool true, K.iv 0] (K.z (K.t (K.s (K.g ?_))))
 refine K.a (K.QR.bd [] [.slice none 0 0, .slice none 0 0, .slice none 0 0] rfl rfl (by kernel_rfl)) ?_
 refine K.a (K.QR.ldN [K.iv 0, K.iv 3, .int .u32 4, .int .u32 0, K.iv 1, .int .u32 0, K.iv 0, K.iv 5, K.iv 3, .bool false, .bool false] rfl rfl (by kernel_rfl) (by kernel_rfl) (K.cells (K.cl ((hS.blk 8 rfl hg_5).cell rfl) (K.cl ((hS.blk 8 rfl hg_5).cell rfl) (K.cl ((hS.blk 8 rfl hg_5).cell rfl) (K.cl ((hS.blk 8 rfl hg_5).cell rfl) (K.cl ((hS.blk 8 rfl hg_5).cell rfl) (K.cl ((hS.blk 8 rfl hg_5).cell rfl) (K.cl ((hS.blk 8 rfl hg_5).cell rfl) (K.cl ((hS.blk 8 rfl hg_5).cell rfl) (K.cl ((hS.blk 8 rfl hg_5).cell rfl) (K.cl ((hS.blk 8 rfl hg_5).cell rfl) (K.cl ((hS.blk 8 rfl hg_5).cell rfl) K.cl0))))))))))))) ?_
 refine K.a (K.QR.ldN [K.iv 1, K.iv 5, .int .u32 4, .int .u32 0, K.iv 3, .int .u32 0, K.iv 1, K.iv 6, K.iv 2, .bool false, .bool false] rfl rfl (by kernel_rfl) (by kernel_rfl) (K.cells (K.cl ((hS.blk 7 rfl hg_34).cell rfl) (K.cl ((hS.blk 7 rfl hg_34).cell rfl) (K.cl ((hS.blk 7 rfl hg_34).cell rfl) (K.cl ((hS.blk 7 rfl hg_34).cell rfl) (K.cl ((hS.blk 7 rfl hg_34).cell rfl) (K.cl ((hS.blk 7 rfl hg_34).cell rfl) (K.cl ((hS.blk 7 rfl hg_34).cell rfl) (K.cl ((hS.blk 7 rfl hg_34).cell rfl) (K.cl ((hS.blk 7 rfl hg_34).cell rfl) (K.cl ((hS.blk 7 rfl hg_34).cell rfl) (K.cl ((hS.blk 7 rfl hg_34).cell rfl) K.cl0))))))))))))) ?_
 refine K.l (K.OW.gbs [(0, .agg #[K.iv 0, K.iv 3, .int .u32 4, .int .u32 0, K.iv 1, .int .u32 0, K.iv 0, K.iv 5, K.iv 3, .bool false, .bool false]), (1, .agg #[K.iv 1, K.iv 5, .int .u32 4, .int .u32 0, K.iv 3, .int .u32 0, K.iv 1, K.iv 6, K.iv 2, .bool false, .bool false])] [K.iv 0, K.iv 3, .int .u32 4, .int .u32 0, K.iv 1, .int .u32 0, K.iv 0, K.iv 5, K.iv 3, .bool false, .bool false, K.iv 1, K.iv 5, .int .u32 4, .int .u32 0, K.iv 3, .int .u32 0, K.iv 1, K.iv 6, K.iv 2, .bool false, .bool false] hS (fun w => K.bs_run (P := Try.prog) w 22 51 2 _ _ Try.underlying22 (by kernel_rfl)) ?_)
 clear hS; intro w r_39 g_40 hg_41 hS
 refine K.l (K.OW.gcall hS [61, 0] [1, 2, 3, 4, 5, 6, 7, 8, 9, 10] [.agg #[.slice none 0 0, .slice none 0 0, .slice none 0 0], .slice (some ⟨r_39, 0, none⟩) 2 2] (chk_aw2 _ _ _ [(⟨0, 3, 4, 0, 1, 0, 0, 5, 3, false, false⟩ : CallM), (⟨1, 5, 4, 0, 3, 0, 1, 6, 2, false, false⟩ : CallM)] (by decide) _ (fun w h => K.Blk.rowE (c := cCall) call0 (L := [(⟨0, 3, 4, 0, 1, 0, 0, 5, 3, false, false⟩ : CallM), (⟨1, 5, 4, 0, 3, 0, 1, 6, 2, false, false⟩ : CallM)]) (h.blk 0 rfl hg_41) (fun _ => rfl) rfl) aw_right2 (by decide) _ aw_ord2 (by kernel_rfl)) ?_)
 clear hS; rintro _ _ w ⟨g_42, rfl, rfl⟩ hS
 replace hS : K.Sat w0 [g_42, g_40, g_38, g_36, g_31, g_18, g_16, g_14, g_12, g_33, g_4, fr] w := hS.of (by simp [K.pick, K.nth])
 refine K.q [.tuple #[.agg #[.slice none 0 0, .slice none 0 0, .slice none 0 0], K.iv 9], .agg #[.slice none 0 0, .slice none 0 0, .slice none 0 0], K.iv 9] ?_
 refine K.l (K.OW.gnew 30 [.slice none 0 0, .slice none 0 0, .slice none 0 0] hS ?_)
 clear hS; intro w r_43 g_44 hg_45 hS
 refine K.l (K.OW.gst 0 [.slice none 0 0, .slice none 0 0, .slice none 0 0] _ hS hg_45 ?_)
 clear hS; intro w g_46 hg_47 hS
 replace hS : K.Sat w0 [g_46, g_42, g_40, g_38, g_36, g_31, g_18, g_16, g_14, g_12, g_33, g_4, fr] w := hS
 refine K.q [K.iv 9] (K.z (K.t (K.s (K.g (K.q [.bool true, .bool true, .bool true, .bool true, .bool true, K.iv 0, .bool true, .bool true, .bool true, K.iv 0, .bool true, .bool true, .bool true, K.iv 0, .bool true, .bool true, .bool true, K.iv 9, .bool true, .bool true, .bool true] (K.z (K.t (K.r ?_))))))))
 refine ⟨.inr rfl, rfl, (.bool true), K.res1 rfl rfl, [], ?_, hS.pick [12]⟩
 exact ⟨rfl, rfl⟩
end Go.Proofs.Ytnehocjmgnhhhaa
