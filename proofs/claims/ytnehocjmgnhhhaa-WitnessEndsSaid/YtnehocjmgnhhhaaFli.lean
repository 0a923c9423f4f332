import Derived.Test.YtnehocjmgnhhhaaFas
import Derived.Test.YtnehocjmgnhhhaaKn
/- Witness: the search laid out. -/
namespace Go.Proofs.Ytnehocjmgnhhhaa
open Go.RowKit
set_option linter.unusedVariables false
attribute [local irreducible] K.KW K.RW K.DW K.OW K.QR K.KC
set_option maxHeartbeats 4000000 in
set_option maxRecDepth 100000 in
theorem orders_ok (w0 : World) (a : Option Addr) (cap : Nat) (L : List CallM) (hm : L.length ≤ 1000000) (gx : K.Cs) (hx : ∀ w, K.Sat w0 [gx] w → K.RowE w a L.length 11 (fun i => cCall (L.getD i call0))) (q s mm : Option Addr) (cq cs cm : Nat) (S : StM) (hl2 : S.s.length ≤ 1000) (hl3 : S.m.length ≤ 1000) (g : K.Cs) (x : RdSt w0 g q s mm cq S) :
  K.GC Try.prog w0 34 #[.agg #[.slice q S.q.length cq, .slice s S.s.length cs, .slice mm S.m.length cm], .slice a L.length cap] [g, gx] (fun v post => (¬ okS S ∧ post = [g, gx] ∧ v = .tuple #[.nilFunc, K.iv 1]) ∨ (okS S ∧ ¬ rightH L ∧ post = [g, gx] ∧ v = .tuple #[.nilFunc, K.iv 3]) ∨ (okS S ∧ rightH L ∧ 8 < L.length ∧ post = [g, gx] ∧ v = .tuple #[.nilFunc, K.iv 2]) ∨ (okS S ∧ rightH L ∧ L.length ≤ 8 ∧ ∃ b1 b2 bx bu g1 g2 gb gu cu, post = [g, gx, g1, g2, gb, gu] ∧ v = .tuple #[.func (.func 64) [].toArray [K.pa b1, K.pa b2].toArray, K.iv 0] ∧ g1 = [K.pt b1 83 [K.pa bx]] ∧ g2 = [K.pt b2 30 [.slice q S.q.length cq, .slice s S.s.length cs, .slice mm S.m.length cm]] ∧ gb = [K.pt bx 85 [.slice a L.length cap, .slice bu L.length cu]] ∧ K.OwnG gu 4 1 bu L.length cu ((List.replicate L.length false).flatMap cBool))) := by
 refine K.GC.mk (n := 30) Try.func34 rfl rfl [.agg #[.slice q S.q.length cq, .slice s S.s.length cs, .slice mm S.m.length cm], .slice a L.length cap] rfl rfl ?_
 intro fr w hS
 replace hS : K.Sat w0 [g, gx, fr] w := hS
 refine K.s (K.g ?_)
 refine K.l (K.OW.gnew 30 [.slice q S.q.length cq, .slice s S.s.length cs, .slice mm S.m.length cm] hS ?_)
 clear hS; intro w r_1 g_2 hg_3 hS
 refine K.q [.nilFunc, K.iv 0] (K.z (K.t (K.s (K.g ?_))))
 refine K.a (K.QR.ldN [.slice q S.q.length cq, .slice s S.s.length cs, .slice mm S.m.length cm] rfl rfl (by kernel_rfl) (by kernel_rfl) (K.cells (K.cl ((hS.blk 0 rfl hg_3).cell rfl) (K.cl ((hS.blk 0 rfl hg_3).cell rfl) (K.cl ((hS.blk 0 rfl hg_3).cell rfl) K.cl0))))) ?_
 refine K.q [.slice a L.length cap] ?_
 refine K.l (K.OW.gcall hS [1, 2] [0, 3] [.agg #[.slice q S.q.length cq, .slice s S.s.length cs, .slice mm S.m.length cm], .slice a L.length cap] (asked_ok _ _ _ L (by omega) _ hx q s mm cq cs cm S (by omega) (by omega) _ x) ?_)
 clear hS; rintro _ _ w ⟨rfl, (⟨h_4, rfl⟩ | ⟨h_5, h2_6, rfl⟩ | ⟨h_7, h2_8, rfl⟩)⟩ hS
 ·
  replace hS : K.Sat w0 [g, gx, g_2, fr] w := hS
  refine K.q [K.iv 1] (K.z (K.t (K.s (K.s (K.g (K.q [K.iv 1, .bool false, .bool false] (K.n_ (K.n_ (K.n_ (K.q [.bool false] (K.z (K.t (K.f (K.k ?_))))))))))))))
  refine K.t (K.s (K.s (K.g (K.q [K.iv 1, .bool true] (K.z (K.t (K.h (K.s (K.g (K.q [K.iv 1, .nilFunc, K.iv 1] (K.z (K.t (K.r (K.u ?_))))))))))))))
  refine ⟨.inr rfl, rfl, (.tuple #[.nilFunc, K.iv 1]), K.res2 rfl rfl rfl, [g, gx], ?_, hS.pick [0, 1, 3]⟩
  exact .inl ⟨h_4, rfl, rfl⟩
 ·
  replace hS : K.Sat w0 [g, gx, g_2, fr] w := hS
  refine K.q [K.iv 3] (K.z (K.t (K.s (K.s (K.g (K.q [K.iv 3, .bool false, .bool false] (K.n_ (K.n_ (K.n_ (K.q [.bool false] (K.z (K.t (K.f (K.k ?_))))))))))))))
  refine K.t (K.s (K.s (K.g (K.q [K.iv 3, .bool true] (K.z (K.t (K.h (K.s (K.g (K.q [K.iv 3, .nilFunc, K.iv 3] (K.z (K.t (K.r (K.u ?_))))))))))))))
  refine ⟨.inr rfl, rfl, (.tuple #[.nilFunc, K.iv 3]), K.res2 rfl rfl rfl, [g, gx], ?_, hS.pick [0, 1, 3]⟩
  exact .inr (.inl ⟨h_5, h2_6, rfl, rfl⟩)
 ·
  replace hS : K.Sat w0 [g, gx, g_2, fr] w := hS
  refine K.q [K.iv 0] (K.z (K.t (K.s (K.s (K.g (K.q [K.iv 0, .bool true, .bool true, .slice a L.length cap] ?_))))))
  refine K.a (K.QR.len (P := Try.prog) rfl rfl Try.underlying22) ?_
  by_cases h_9 : (((L.length : Nat) : Int) : Int) > (8 : Int)
  ·
   refine K.y ((((L.length : Nat) : Int) : Int) > (8 : Int)) h_9 ?_
   refine K.q [.bool true] (K.z (K.t (K.h (K.g (K.q [K.iv 2] (K.z (K.t (K.s (K.s (K.g (K.q [K.iv 2, .bool true] (K.z (K.t (K.h ?_))))))))))))))
   refine K.s (K.g (K.q [K.iv 2, .nilFunc, K.iv 2] (K.z (K.t (K.r (K.u ?_))))))
   refine ⟨.inr rfl, rfl, (.tuple #[.nilFunc, K.iv 2]), K.res2 rfl rfl rfl, [g, gx], ?_, hS.pick [0, 1, 3]⟩
   exact .inr (.inr (.inl ⟨h_7, h2_8, by omega, rfl, rfl⟩))
  ·
   refine K.x ((((L.length : Nat) : Int) : Int) > (8 : Int)) h_9 ?_
   refine K.q [.bool false] (K.z (K.t (K.f (K.k (K.t (K.s (K.s (K.g (K.q [K.iv 0, .bool false] (K.z (K.t (K.f (K.k (K.t ?_))))))))))))))
   refine K.s (K.g (K.q [.slice a L.length cap, .slice a L.length cap] ?_))
   refine K.a (K.QR.len (P := Try.prog) rfl rfl Try.underlying22) ?_
   refine K.l (K.OW.gmk (P := Try.prog) (m := L.length) (cc := cBool) (z := .bool false) (size := 1) (bytes := 1) (false : Bool) hS ?_ Try.underlying54 (by kernel_rfl) rfl rfl (by unfold maxLen; omega) (by omega))
   clear hS; intro w r_10 l_11 o_12 hS
   refine K.a (K.QR.bd [(0, .slice a L.length cap), (1, .slice (some ⟨r_10, 0, none⟩) L.length L.length)] [.slice a L.length cap, .slice (some ⟨r_10, 0, none⟩) L.length L.length] rfl rfl (by kernel_rfl)) ?_
   refine K.l (K.OW.gnew 85 [.slice a L.length cap, .slice (some ⟨r_10, 0, none⟩) L.length L.length] hS ?_)
   clear hS; intro w r_13 g_14 hg_15 hS
   refine K.q [K.pa r_13] (K.z (K.t (K.s (K.g (K.q [K.pa r_13] ?_)))))
   refine K.a (K.QR.ldN [.slice q S.q.length cq, .slice s S.s.length cs, .slice mm S.m.length cm] rfl rfl (by kernel_rfl) (by kernel_rfl) (K.cells (K.cl ((hS.blk 4 rfl hg_3).cell rfl) (K.cl ((hS.blk 4 rfl hg_3).cell rfl) (K.cl ((hS.blk 4 rfl hg_3).cell rfl) K.cl0))))) ?_
   refine K.l (K.OW.gcall hS [] [0, 1, 2, 3, 4, 5] [K.pa r_13, .agg #[.slice q S.q.length cq, .slice s S.s.length cs, .slice mm S.m.length cm]] (ends0_ok _ r_13 q s mm cq cs cm S) ?_)
   clear hS; rintro _ _ w ⟨b1_16, b2_17, g1_18, g2_19, rfl, rfl, x1_20, x2_21⟩ hS
   replace hS : K.Sat w0 [g1_18, g2_19, g_14, l_11, g, gx, g_2, fr] w := hS
   refine K.q [.func (.func 64) [].toArray [K.pa b1_16, K.pa b2_17].toArray, K.iv 0] (K.z (K.t (K.r ?_)))
   refine ⟨.inr rfl, rfl, (.tuple #[.func (.func 64) [].toArray [K.pa b1_16, K.pa b2_17].toArray, K.iv 0]), K.res2 rfl rfl rfl, [g, gx, g1_18, g2_19, g_14, l_11], ?_, hS.pick [4, 5, 0, 1, 2, 3, 7]⟩
   exact .inr (.inr (.inr ⟨h_7, h2_8, by omega, _, _, _, _, _, _, _, _, _, rfl, rfl, x1_20, x2_21, hg_15, o_12⟩))
end Go.Proofs.Ytnehocjmgnhhhaa

/- Witness: Linear. -/
namespace Go.Proofs.Ytnehocjmgnhhhaa
open Go.RowKit
set_option linter.unusedVariables false
attribute [local irreducible] K.KW K.RW K.DW K.OW K.QR K.KC
theorem rep_count (n : Nat) : (List.replicate n false).count false = n := by simp
set_option maxHeartbeats 8000000 in
set_option maxRecDepth 100000 in
theorem linear_ok (w0 : World) (a : Option Addr) (cap : Nat) (L : List CallM) (hm : L.length ≤ 1000000) (gx : K.Cs) (hx : ∀ w, K.Sat w0 [gx] w → K.RowE w a L.length 11 (fun i => cCall (L.getD i call0))) (q s mm : Option Addr) (cq cs cm : Nat) (S : StM) (hl2 : S.s.length ≤ 1000) (hl3 : S.m.length ≤ 1000) (g : K.Cs) (x : RdSt w0 g q s mm cq S) (hl1 : S.q.length ≤ 100) (hl2' : S.s.length ≤ 100) (hl3' : S.m.length ≤ 100) :
  K.GC Try.prog w0 18 #[.agg #[.slice q S.q.length cq, .slice s S.s.length cs, .slice mm S.m.length cm], .slice a L.length cap] [g, gx] (fun v post => (¬ okS S ∧ post = [g, gx] ∧ v = .tuple #[.bool false, K.iv 1]) ∨ (okS S ∧ ¬ rightH L ∧ post = [g, gx] ∧ v = .tuple #[.bool false, K.iv 3]) ∨ (okS S ∧ rightH L ∧ 8 < L.length ∧ post = [g, gx] ∧ v = .tuple #[.bool false, K.iv 2]) ∨ (okS S ∧ rightH L ∧ L.length ≤ 8 ∧ (endsN L ((List.replicate L.length false).count false + 1) S (List.replicate L.length false)) = [] ∧ ∃ g', post = [g', gx] ∧ Grow w0 g g' ∧ v = .tuple #[.bool false, K.iv 0]) ∨ (okS S ∧ rightH L ∧ L.length ≤ 8 ∧ ¬ (endsN L ((List.replicate L.length false).count false + 1) S (List.replicate L.length false)) = [] ∧ ∃ g', post = [g', gx] ∧ Grow w0 g g' ∧ v = .tuple #[.bool true, K.iv 0])) := by
 refine K.GC.mkD (n := 19) Try.func18 rfl rfl [.agg #[.slice q S.q.length cq, .slice s S.s.length cs, .slice mm S.m.length cm], .slice a L.length cap] rfl rfl ?_
 intro fr w hS
 replace hS : K.Sat w0 [g, gx, fr] w := hS
 refine K.s (K.g ?_)
 refine K.l (K.OW.gnew 30 [.slice q S.q.length cq, .slice s S.s.length cs, .slice mm S.m.length cm] hS ?_)
 clear hS; intro w r_1 g_2 hg_3 hS
 refine K.l (K.OW.gnew 4 [.bool false] hS ?_)
 clear hS; intro w r_4 g_5 hg_6 hS
 refine K.l (K.OW.gnew 32 [K.iv 0] hS ?_)
 clear hS; intro w r_7 g_8 hg_9 hS
 refine K.z (K.t (K.s (K.g ?_)))
 refine K.a (K.QR.ldN [.slice q S.q.length cq, .slice s S.s.length cs, .slice mm S.m.length cm] rfl rfl (by kernel_rfl) (by kernel_rfl) (K.cells (K.cl ((hS.blk 2 rfl hg_3).cell rfl) (K.cl ((hS.blk 2 rfl hg_3).cell rfl) (K.cl ((hS.blk 2 rfl hg_3).cell rfl) K.cl0))))) ?_
 refine K.q [.slice a L.length cap] ?_
 refine K.l (K.OW.gcall hS [3, 4] [0, 1, 2, 5] [.agg #[.slice q S.q.length cq, .slice s S.s.length cs, .slice mm S.m.length cm], .slice a L.length cap] (orders_ok _ _ _ L (by omega) _ hx q s mm cq cs cm S (by omega) (by omega) _ x) ?_)
 clear hS; rintro _ _ w (⟨h_10, rfl, rfl⟩ | ⟨h_11, h2_12, rfl, rfl⟩ | ⟨h_13, h2_14, h3_15, rfl, rfl⟩ | ⟨h_16, h2_17, h3_18, b1_19, b2_20, bx_21, bu_22, g1_23, g2_24, gb_25, gu_26, cu_27, rfl, rfl, y1_28, y2_29, y3_30, y4_31⟩) hS
 ·
  replace hS : K.Sat w0 [g, gx, g_8, g_5, g_2, fr] w := hS
  refine K.q [.tuple #[.nilFunc, K.iv 1], .nilFunc, K.iv 1, .nilFunc, K.iv 1] (K.z (K.t (K.s (K.s (K.g (K.q [K.iv 1, .bool true] (K.z (K.t (K.h (K.s (K.g (K.q [K.iv 1] ?_))))))))))))
  refine K.l (K.OW.gst 3 [.bool false] _ hS hg_6 ?_)
  clear hS; intro w g_32 hg_33 hS
  replace hS : K.Sat w0 [g, gx, g_8, g_32, g_2, fr] w := hS
  refine K.l (K.OW.gst 2 [K.iv 1] _ hS hg_9 ?_)
  clear hS; intro w g_34 hg_35 hS
  replace hS : K.Sat w0 [g, gx, g_34, g_32, g_2, fr] w := hS
  refine K.z (K.t (K.r (K.u ?_)))
  refine ⟨.inr rfl, .inl ⟨rfl, ?_⟩⟩
  refine ⟨(.tuple #[.bool false, K.iv 1]), K.resAt (rs := [.cell 4 4, .cell 5 32]) [.bool false, K.iv 1] rfl ⟨⟨_, rfl, K.lv1 (by kernel_rfl) ((hS.blk 3 rfl hg_33).cell rfl)⟩, ⟨_, rfl, K.lv1 (by kernel_rfl) ((hS.blk 2 rfl hg_35).cell rfl)⟩, trivial⟩, [g, gx], ?_, hS.pick [0, 1, 5]⟩
  exact .inl ⟨h_10, rfl, rfl⟩
 ·
  replace hS : K.Sat w0 [g, gx, g_8, g_5, g_2, fr] w := hS
  refine K.q [.tuple #[.nilFunc, K.iv 3], .nilFunc, K.iv 3, .nilFunc, K.iv 3] (K.z (K.t (K.s (K.s (K.g (K.q [K.iv 3, .bool true] (K.z (K.t (K.h (K.s (K.g (K.q [K.iv 3] ?_))))))))))))
  refine K.l (K.OW.gst 3 [.bool false] _ hS hg_6 ?_)
  clear hS; intro w g_36 hg_37 hS
  replace hS : K.Sat w0 [g, gx, g_8, g_36, g_2, fr] w := hS
  refine K.l (K.OW.gst 2 [K.iv 3] _ hS hg_9 ?_)
  clear hS; intro w g_38 hg_39 hS
  replace hS : K.Sat w0 [g, gx, g_38, g_36, g_2, fr] w := hS
  refine K.z (K.t (K.r (K.u ?_)))
  refine ⟨.inr rfl, .inl ⟨rfl, ?_⟩⟩
  refine ⟨(.tuple #[.bool false, K.iv 3]), K.resAt (rs := [.cell 4 4, .cell 5 32]) [.bool false, K.iv 3] rfl ⟨⟨_, rfl, K.lv1 (by kernel_rfl) ((hS.blk 3 rfl hg_37).cell rfl)⟩, ⟨_, rfl, K.lv1 (by kernel_rfl) ((hS.blk 2 rfl hg_39).cell rfl)⟩, trivial⟩, [g, gx], ?_, hS.pick [0, 1, 5]⟩
  exact .inr (.inl ⟨h_11, h2_12, rfl, rfl⟩)
 ·
  replace hS : K.Sat w0 [g, gx, g_8, g_5, g_2, fr] w := hS
  refine K.q [.tuple #[.nilFunc, K.iv 2], .nilFunc, K.iv 2, .nilFunc, K.iv 2] (K.z (K.t (K.s (K.s (K.g (K.q [K.iv 2, .bool true] (K.z (K.t (K.h (K.s (K.g (K.q [K.iv 2] ?_))))))))))))
  refine K.l (K.OW.gst 3 [.bool false] _ hS hg_6 ?_)
  clear hS; intro w g_40 hg_41 hS
  replace hS : K.Sat w0 [g, gx, g_8, g_40, g_2, fr] w := hS
  refine K.l (K.OW.gst 2 [K.iv 2] _ hS hg_9 ?_)
  clear hS; intro w g_42 hg_43 hS
  replace hS : K.Sat w0 [g, gx, g_42, g_40, g_2, fr] w := hS
  refine K.z (K.t (K.r (K.u ?_)))
  refine ⟨.inr rfl, .inl ⟨rfl, ?_⟩⟩
  refine ⟨(.tuple #[.bool false, K.iv 2]), K.resAt (rs := [.cell 4 4, .cell 5 32]) [.bool false, K.iv 2] rfl ⟨⟨_, rfl, K.lv1 (by kernel_rfl) ((hS.blk 3 rfl hg_41).cell rfl)⟩, ⟨_, rfl, K.lv1 (by kernel_rfl) ((hS.blk 2 rfl hg_43).cell rfl)⟩, trivial⟩, [g, gx], ?_, hS.pick [0, 1, 5]⟩
  exact .inr (.inr (.inl ⟨h_13, h2_14, h3_15, rfl, rfl⟩))
 ·
  replace hS : K.Sat w0 [g, gx, g1_23, g2_24, gb_25, gu_26, g_8, g_5, g_2, fr] w := hS
  refine K.q [.tuple #[.func (.func 64) [].toArray [K.pa b1_19, K.pa b2_20].toArray, K.iv 0], .func (.func 64) [].toArray [K.pa b1_19, K.pa b2_20].toArray, K.iv 0, .func (.func 64) [].toArray [K.pa b1_19, K.pa b2_20].toArray, K.iv 0] (K.z (K.t (K.s (K.s (K.g (K.q [K.iv 0, .bool false] (K.z (K.t (K.f (K.k (K.t (K.s (K.s ?_)))))))))))))
  have hok := h_16
  refine K.g (K.q [.func (.func 64) [].toArray [K.pa b1_19, K.pa b2_20].toArray] (K.z (K.t ?_)))
  refine K.KW.block ?_
  refine K.KW.grange (first := []) (cap := [K.pa b1_19, K.pa b2_20]) hS rfl (by kernel_rfl) rfl ?_
  clear hS; intro fid_44 w rd_45 lp_46 gd_47 gl_48 hgd_49 hgl_50 hS
  generalize hrec_52 : K.mkLoop _ _ _ _ _ _ _ = rec_51 at hgl_50
  subst hgl_50
  replace hS : K.Sat w0 [g1_23, g2_24, gb_25, gu_26, gx, g, [[(lp_46, Obj.loop rec_51)], gd_47, g_8, g_5, g_2, fr].flatten] w := (hS.pick [4, 5, 6, 7, 3, 2, 0, 1, 8, 9, 10, 11]).of
  have hY : YldS Try.prog w0 lp_46 (endsN L ((List.replicate L.length false).count false + 1) S (List.replicate L.length false)) (fun (d : List StM) (g m : K.Cs) => (d = []) ∧ m = [[(lp_46, Obj.loop rec_51)], gd_47, g_8, g_5, g_2, fr].flatten) (fun (g m : K.Cs) => ∃ (gB : K.Cs) (gA : K.Cs), (¬ (endsN L ((List.replicate L.length false).count false + 1) S (List.replicate L.length false)) = []) ∧ (gB = [K.pt r_7 32 [K.iv 0]]) ∧ (gA = [K.pt r_4 4 [.bool true]]) ∧ m = [[(lp_46, Obj.loop { rec_51 with state := .done, pending := some .ret })], gd_47, gB, gA, g_2, fr].flatten) := by
   clear hS; intro d g0 m0 q0 s0 mm0 cq0 cs0 cm0 S0 hJ_54 hx0 hg0 hp0 fr_53 w hS
   obtain ⟨hd0, rfl⟩ := hJ_54
   replace hS : K.Sat w0 [g0, [(lp_46, Obj.loop rec_51)], gd_47, g_8, g_5, g_2, fr, fr_53] w := hS.of (by simp [K.pick, K.nth])
   obtain ⟨gl_56, hgl_57⟩ : ∃ g : K.Cs, g = [(lp_46, Obj.loop rec_51)] := ⟨_, rfl⟩
   replace hS : K.Sat w0 [g0, gl_56, gd_47, g_8, g_5, g_2, fr, fr_53] w := by rw [hgl_57]; exact hS
   subst hrec_52
   refine K.YS.ground (n := 19) (ps := [18]) 1 hS rfl hgl_57 rfl rfl rfl rfl rfl ?_
   refine K.k ?_
   refine K.rb_g 1 hS rfl hgl_57 rfl ?_
   clear hS; intro w gl_58 hgl_59 hS
   replace hS : K.Sat w0 [g0, gl_58, gd_47, g_8, g_5, g_2, fr, fr_53] w := hS
   refine K.KW.block ?_
   refine K.s (K.g ?_)
   refine K.l (K.OW.gst 4 [.bool true] _ hS hg_6 ?_)
   clear hS; intro w g_60 hg_61 hS
   replace hS : K.Sat w0 [g0, gl_58, gd_47, g_8, g_60, g_2, fr, fr_53] w := hS
   refine K.l (K.OW.gst 3 [K.iv 0] _ hS hg_9 ?_)
   clear hS; intro w g_62 hg_63 hS
   replace hS : K.Sat w0 [g0, gl_58, gd_47, g_62, g_60, g_2, fr, fr_53] w := hS
   refine K.z (K.t (K.r ?_))
   refine K.blk_ret ?_
   refine K.rq_ret_g 1 hS rfl hgl_59 ?_
   clear hS; intro w gl_64 hgl_65 hS
   replace hS : K.Sat w0 [g0, gl_64, gd_47, g_62, g_60, g_2, fr, fr_53] w := hS
   refine ⟨_, rfl, [g0, [gl_64, gd_47, g_62, g_60, g_2, fr].flatten].flatten, .inr ⟨rfl, _, rfl, g_62, g_60, (fun he => by rw [he] at hp0; have := hp0.length_le; simp at this), (hg_63), (hg_61), by subst hgl_65; rfl⟩, (hS.pick [0, 1, 2, 3, 4, 5, 6, 7]).of (by simp [K.pick, K.nth])⟩
  refine K.KC.ofG hS [0, 1, 2, 3, 4, 5, 6] [] (ends1_ok _ _ _ _ _ _ y1_28 _ _ _ _ _ _ L (List.replicate L.length false) hm (by simp) y3_30 y4_31 _ hx lp_46 _ _ (fun _ _ _ _ h _ => h) (fun _ _ _ h _ => h) _ hY _ _ [] (⟨rfl, rfl⟩) q s mm cq cs cm S 100 x ⟨hl1, hl2', hl3', hok⟩ (by rw [rep_count]; omega) (by rw [List.nil_append]; exact List.prefix_rfl) y2_29) ?_
  clear hS; rintro _ _ w ⟨gu_66, g_67, m_68, rfl, hgr_69, hv_70⟩ hS
  rcases hv_70 with hv_70 | hv_70
  ·
   obtain ⟨hd0, rfl⟩ := hv_70
   replace hS : K.Sat w0 [g1_23, g2_24, gb_25, gu_66, gx, g_67, [(lp_46, Obj.loop rec_51)], gd_47, g_8, g_5, g_2, fr] w := hS.of (by simp [K.pick, K.nth])
   obtain ⟨gl_72, hgl_73⟩ : ∃ g : K.Cs, g = [(lp_46, Obj.loop rec_51)] := ⟨_, rfl⟩
   replace hS : K.Sat w0 [g1_23, g2_24, gb_25, gu_66, gx, g_67, gl_72, gd_47, g_8, g_5, g_2, fr] w := by rw [hgl_73]; exact hS
   subst hrec_52
   refine K.gafter 6 [0, 1, 2, 3, 4, 5, 7, 8, 9, 10, 11] hS rfl hgl_73 (fun h => by cases h) ?_
   clear hS; intro w hS
   replace hS : K.Sat w0 [g1_23, g2_24, gb_25, gu_66, gx, g_67, gd_47, g_8, g_5, g_2, fr] w := hS
   refine K.afterR_none rfl ?_
   refine K.blk_normal ?_
   refine K.t (K.s (K.g ?_))
   refine K.l (K.OW.gst 8 [.bool false] _ hS hg_6 ?_)
   clear hS; intro w g_74 hg_75 hS
   replace hS : K.Sat w0 [g1_23, g2_24, gb_25, gu_66, gx, g_67, gd_47, g_8, g_74, g_2, fr] w := hS
   refine K.l (K.OW.gst 7 [K.iv 0] _ hS hg_9 ?_)
   clear hS; intro w g_76 hg_77 hS
   replace hS : K.Sat w0 [g1_23, g2_24, gb_25, gu_66, gx, g_67, gd_47, g_76, g_74, g_2, fr] w := hS
   refine K.z (K.t (K.r ?_))
   refine ⟨.inr rfl, .inr ⟨_, rfl, K.endD 6 [0, 1, 2, 3, 4, 5, 7, 8, 9, 10] hS rfl hgd_49 ?_⟩⟩
   clear hS; intro w hS
   replace hS : K.Sat w0 [g1_23, g2_24, gb_25, gu_66, gx, g_67, g_76, g_74, g_2, fr] w := hS
   refine ⟨(.tuple #[.bool false, K.iv 0]), K.resAt (rs := [.cell 4 4, .cell 5 32]) [.bool false, K.iv 0] rfl ⟨⟨_, rfl, K.lv1 (by kernel_rfl) ((hS.blk 7 rfl hg_75).cell rfl)⟩, ⟨_, rfl, K.lv1 (by kernel_rfl) ((hS.blk 6 rfl hg_77).cell rfl)⟩, trivial⟩, [g_67, gx], ?_, hS.pick [5, 4, 9]⟩
   exact .inr (.inr (.inr (.inl ⟨h_16, h2_17, h3_18, hd0, _, rfl, hgr_69, rfl⟩)))
  ·
   obtain ⟨gB, gA, hne, h_79, h_80, rfl⟩ := hv_70
   replace hS : K.Sat w0 [g1_23, g2_24, gb_25, gu_66, gx, g_67, [(lp_46, Obj.loop { rec_51 with state := .done, pending := some .ret })], gd_47, gB, gA, g_2, fr] w := hS.of (by simp [K.pick, K.nth])
   obtain ⟨gl_81, hgl_82⟩ : ∃ g : K.Cs, g = [(lp_46, Obj.loop { rec_51 with state := .done, pending := some .ret })] := ⟨_, rfl⟩
   replace hS : K.Sat w0 [g1_23, g2_24, gb_25, gu_66, gx, g_67, gl_81, gd_47, gB, gA, g_2, fr] w := by rw [hgl_82]; exact hS
   subst hrec_52
   refine K.gafter 6 [0, 1, 2, 3, 4, 5, 7, 8, 9, 10, 11] hS rfl hgl_82 (fun h => by cases h) ?_
   clear hS; intro w hS
   replace hS : K.Sat w0 [g1_23, g2_24, gb_25, gu_66, gx, g_67, gd_47, gB, gA, g_2, fr] w := hS
   refine K.afterR_ret rfl ?_
   refine K.blk_ret ?_
   refine K.u ?_
   refine ⟨.inr rfl, .inr ⟨_, rfl, K.endD 6 [0, 1, 2, 3, 4, 5, 7, 8, 9, 10] hS rfl hgd_49 ?_⟩⟩
   clear hS; intro w hS
   replace hS : K.Sat w0 [g1_23, g2_24, gb_25, gu_66, gx, g_67, gB, gA, g_2, fr] w := hS
   refine ⟨(.tuple #[.bool true, K.iv 0]), K.resAt (rs := [.cell 4 4, .cell 5 32]) [.bool true, K.iv 0] rfl ⟨⟨_, rfl, K.lv1 (by kernel_rfl) ((hS.blk 7 rfl h_80).cell rfl)⟩, ⟨_, rfl, K.lv1 (by kernel_rfl) ((hS.blk 6 rfl h_79).cell rfl)⟩, trivial⟩, [g_67, gx], ?_, hS.pick [5, 4, 9]⟩
   exact .inr (.inr (.inr (.inr ⟨h_16, h2_17, h3_18, hne, _, rfl, hgr_69, rfl⟩)))
end Go.Proofs.Ytnehocjmgnhhhaa
