import Derived.Test.YtnehocjmgnhhhaaFck
import Derived.Test.YtnehocjmgnhhhaaKn
/- Witness: Check. -/
namespace Go.Proofs.Ytnehocjmgnhhhaa
open Go.RowKit
set_option linter.unusedVariables false
attribute [local irreducible] K.KW K.RW K.DW K.OW K.QR K.KC
set_option maxHeartbeats 8000000 in
set_option maxRecDepth 100000 in
theorem check_ok (w0 : World) (a : Option Addr) (cap : Nat) (L : List CallM) (hm : L.length ≤ 1000000) (gx : K.Cs) (hx : ∀ w, K.Sat w0 [gx] w → K.RowE w a L.length 11 (fun i => cCall (L.getD i call0))) (q s mm : Option Addr) (cq cs cm : Nat) (S : StM) (hl2 : S.s.length ≤ 1000) (hl3 : S.m.length ≤ 1000) (g : K.Cs) (x : RdSt w0 g q s mm cq S) (hl0 : L.length ≤ 100) (hl1 : S.q.length ≤ 100) (hl2' : S.s.length ≤ 100) (hl3' : S.m.length ≤ 100) :
  K.GC Try.prog w0 13 #[.agg #[.slice q S.q.length cq, .slice s S.s.length cs, .slice mm S.m.length cm], .slice a L.length cap] [g, gx] (fun v post => ∃ g', post = [g', gx] ∧ Grow w0 g g' ∧ ((¬ okS S ∧ v = .tuple #[.agg #[.slice none 0 0, .slice none 0 0, .slice none 0 0], K.iv 1]) ∨ (okS S ∧ ¬ rightH L ∧ v = .tuple #[.agg #[.slice none 0 0, .slice none 0 0, .slice none 0 0], K.iv 3]) ∨ (okS S ∧ rightH L ∧ ∃ Q, isOrd L Q ∧ Q.length ≤ L.length ∧ (¬ rspP L Q ∨ runN L S Q = none) ∧ v = .tuple #[.agg #[.slice none 0 0, .slice none 0 0, .slice none 0 0], K.iv 9]) ∨ (okS S ∧ rightH L ∧ ∃ Q, isOrd L Q ∧ Q.length ≤ L.length ∧ rspP L Q ∧ ∃ T q' cq' s' cs' m' cm', runN L S Q = some T ∧ goodS 1000 T ∧ v = .tuple #[stA q' cq' s' cs' m' cm' T, K.iv 0] ∧ RdSt w0 g' q' s' m' cq' T))) := by
 refine K.GC.mk (n := 47) Try.func13 rfl rfl [.agg #[.slice q S.q.length cq, .slice s S.s.length cs, .slice mm S.m.length cm], .slice a L.length cap] rfl rfl ?_
 intro fr w hS
 replace hS : K.Sat w0 [g, gx, fr] w := hS
 refine K.s (K.g ?_)
 refine K.l (K.OW.gnew 30 [.slice q S.q.length cq, .slice s S.s.length cs, .slice mm S.m.length cm] hS ?_)
 clear hS; intro w r_1 g_2 hg_3 hS
 refine K.l (K.OW.gnew 30 [.slice none 0 0, .slice none 0 0, .slice none 0 0] hS ?_)
 clear hS; intro w r_4 g_5 hg_6 hS
 refine K.q [K.iv 0] (K.z (K.t (K.s (K.s (K.g ?_)))))
 refine K.a (K.QR.ldN [.slice q S.q.length cq, .slice s S.s.length cs, .slice mm S.m.length cm] rfl rfl (by kernel_rfl) (by kernel_rfl) (K.cells (K.cl ((hS.blk 1 rfl hg_3).cell rfl) (K.cl ((hS.blk 1 rfl hg_3).cell rfl) (K.cl ((hS.blk 1 rfl hg_3).cell rfl) K.cl0))))) ?_
 refine K.q [.slice a L.length cap] ?_
 refine K.l (K.OW.gcall hS [2, 3] [0, 1, 4] [.agg #[.slice q S.q.length cq, .slice s S.s.length cs, .slice mm S.m.length cm], .slice a L.length cap] (asked_ok _ _ _ L (by omega) _ hx q s mm cq cs cm S (by omega) (by omega) _ x) ?_)
 clear hS; rintro _ _ w ⟨rfl, (⟨h_7, rfl⟩ | ⟨h_8, h2_9, rfl⟩ | ⟨h_10, h2_11, rfl⟩)⟩ hS
 ·
  replace hS : K.Sat w0 [g, gx, g_5, g_2, fr] w := hS
  refine K.q [K.iv 1] (K.z (K.t (K.s (K.g (K.q [K.iv 1, .bool true] (K.z (K.t (K.h (K.s (K.g ?_))))))))))
  refine K.a (K.QR.bd [] [.slice none 0 0, .slice none 0 0, .slice none 0 0] rfl rfl (by kernel_rfl)) ?_
  refine K.q [K.iv 1] ?_
  refine K.l (K.OW.gst 2 [.slice none 0 0, .slice none 0 0, .slice none 0 0] _ hS hg_6 ?_)
  clear hS; intro w g_12 hg_13 hS
  replace hS : K.Sat w0 [g, gx, g_12, g_2, fr] w := hS
  refine K.q [K.iv 1] (K.z (K.t (K.r (K.u ?_))))
  refine ⟨.inr rfl, rfl, (.tuple #[.agg #[.slice none 0 0, .slice none 0 0, .slice none 0 0], K.iv 1]), K.resAt (rs := [.cell 4 30, .tmp 5]) [.agg #[.slice none 0 0, .slice none 0 0, .slice none 0 0], K.iv 1] rfl ⟨⟨_, rfl, K.lvN [.slice none 0 0, .slice none 0 0, .slice none 0 0] (by kernel_rfl) (by kernel_rfl) (K.cells (K.cl ((hS.blk 2 rfl hg_13).cell rfl) (K.cl ((hS.blk 2 rfl hg_13).cell rfl) (K.cl ((hS.blk 2 rfl hg_13).cell rfl) K.cl0))))⟩, rfl, trivial⟩, [g, gx], ?_, hS.pick [0, 1, 4]⟩
  exact ⟨_, rfl, (Grow.refl w0 g), .inl ⟨h_7, rfl⟩⟩
 ·
  replace hS : K.Sat w0 [g, gx, g_5, g_2, fr] w := hS
  refine K.q [K.iv 3] (K.z (K.t (K.s (K.g (K.q [K.iv 3, .bool true] (K.z (K.t (K.h (K.s (K.g ?_))))))))))
  refine K.a (K.QR.bd [] [.slice none 0 0, .slice none 0 0, .slice none 0 0] rfl rfl (by kernel_rfl)) ?_
  refine K.q [K.iv 3] ?_
  refine K.l (K.OW.gst 2 [.slice none 0 0, .slice none 0 0, .slice none 0 0] _ hS hg_6 ?_)
  clear hS; intro w g_14 hg_15 hS
  replace hS : K.Sat w0 [g, gx, g_14, g_2, fr] w := hS
  refine K.q [K.iv 3] (K.z (K.t (K.r (K.u ?_))))
  refine ⟨.inr rfl, rfl, (.tuple #[.agg #[.slice none 0 0, .slice none 0 0, .slice none 0 0], K.iv 3]), K.resAt (rs := [.cell 4 30, .tmp 5]) [.agg #[.slice none 0 0, .slice none 0 0, .slice none 0 0], K.iv 3] rfl ⟨⟨_, rfl, K.lvN [.slice none 0 0, .slice none 0 0, .slice none 0 0] (by kernel_rfl) (by kernel_rfl) (K.cells (K.cl ((hS.blk 2 rfl hg_15).cell rfl) (K.cl ((hS.blk 2 rfl hg_15).cell rfl) (K.cl ((hS.blk 2 rfl hg_15).cell rfl) K.cl0))))⟩, rfl, trivial⟩, [g, gx], ?_, hS.pick [0, 1, 4]⟩
  exact ⟨_, rfl, (Grow.refl w0 g), .inr (.inl ⟨h_8, h2_9, rfl⟩)⟩
 ·
  replace hS : K.Sat w0 [g, gx, g_5, g_2, fr] w := hS
  refine K.q [K.iv 0] (K.z (K.t (K.s (K.g (K.q [K.iv 0, .bool false] (K.z (K.t (K.f (K.k (K.t (K.s ?_)))))))))))
  have hok := h_10
  refine K.g (K.q [.slice a L.length cap] ?_)
  refine K.l (K.OW.gcall hS [1] [0, 2, 3, 4] [.slice a L.length cap] (order_ok _ _ _ L (by omega) _ hx) ?_)
  clear hS; rintro _ _ w ⟨r_16, g_17, k_18, Q_19, rfl, rfl, o_20, ho_21, hl_22⟩ hS
  replace hS : K.Sat w0 [gx, g_17, g, g_5, g_2, fr] w := hS
  refine K.q [.slice r_16 Q_19.length k_18] (K.z (K.t (K.s (K.s ?_))))
  have hqle := o_20.le
  refine K.g (K.q [.slice a L.length cap, .slice r_16 Q_19.length k_18] ?_)
  refine K.l (K.OW.gcall hS [0, 1] [2, 3, 4, 5] [.slice a L.length cap, .slice r_16 Q_19.length k_18] (rsp_ok _ _ _ _ _ L Q_19 (by omega) (by omega) _ hx _ (fun w h => K.RowE.len (K.Own.rowE 0 (h.ownr 0 rfl o_20) rfl (fun _ => rfl)) rfl) (by omega)) ?_)
  clear hS; rintro _ _ w ⟨rfl, (⟨h_23, rfl⟩ | ⟨h_24, rfl⟩)⟩ hS
  ·
   replace hS : K.Sat w0 [gx, g_17, g, g_5, g_2, fr] w := hS
   refine K.q [.bool false] (K.z (K.t (K.f (K.k (K.t (K.s (K.s (K.g (K.q [.slice r_16 Q_19.length k_18] ?_)))))))))
   refine K.a (K.QR.len (P := Try.prog) rfl rfl Try.underlying23) ?_
   refine K.q [K.iv 0] (K.z (K.t ?_))
   refine K.KW.block ?_
   refine K.KW.loop (fun m_ F_ w_ => ∃ (j : Nat) (q1 : Option Addr) (cq1 : Nat) (s1 : Option Addr) (cs1 : Nat) (m1 : Option Addr) (cm1 : Nat) (S1 : StM) (b2 : K.Cs) (g1 : K.Cs), m_ = 1000 - j ∧ K.Sl F_ [(0, .agg #[.slice q S.q.length cq, .slice s S.s.length cs, .slice mm S.m.length cm]), (1, .slice a L.length cap), (2, K.pa r_1), (4, K.pa r_4), (26, .slice r_16 Q_19.length k_18), (27, K.iv ((Q_19.length : Nat) : Int)), (28, K.iv ((j : Nat) : Int)), (47, undef)] ∧ j ≤ Q_19.length ∧ runN L S Q_19 = runN L S1 (Q_19.drop j) ∧ goodS (100 + j) S1 ∧ RdSt w0 g1 q1 s1 m1 cq1 S1 ∧ Grow w0 g g1 ∧ b2 = [K.pt r_1 30 [.slice q1 S1.q.length cq1, .slice s1 S1.s.length cs1, .slice m1 S1.m.length cm1]] ∧ True ∧ K.Sat w0 [gx, g_17, g1, g_5, b2, fr] w_) ((fun (j : Nat) (q1 : Option Addr) (cq1 : Nat) (s1 : Option Addr) (cs1 : Nat) (m1 : Option Addr) (cm1 : Nat) (S1 : StM) => 1000 - j) 0 q cq s cs mm cm S) ?_ ?_
   ·
    exact ⟨0, q, cq, s, cs, mm, cm, S, g_2, g, rfl, ⟨by rfl, by rfl, by rfl, by rfl, by rfl, by rfl, by rfl, by rfl, trivial⟩, (by omega), (rfl), (⟨by omega, by omega, by omega, hok.1, hok.2⟩), (x), (Grow.refl w0 g), hg_3, trivial, hS.pick [0, 1, 2, 3, 4, 5]⟩
   ·
    clear hS
    intro m_25 F_26 w hI
    obtain ⟨j, q1, cq1, s1, cs1, m1, cm1, S1, b2, g1, rfl, sl_27, p_28, hrn, hgd, hx1, hgr, x_29, x_30, hS⟩ := hI
    rw [← K.Sl.puts sl_27]; clear sl_27
    have hxq9 := x.mono hgr
    refine K.s (K.g ?_)
    by_cases h_31 : (((j : Nat) : Int) : Int) < (((Q_19.length : Nat) : Int) : Int)
    ·
     refine K.y ((((j : Nat) : Int) : Int) < (((Q_19.length : Nat) : Int) : Int)) h_31 ?_
     refine K.z (K.t (K.s (K.h (K.k (K.t (K.s ?_))))))
     refine K.KW.block ?_
     refine K.s ?_
     obtain ⟨b_32, rfl⟩ := o_20.some_ (by have := o_20.le; omega)
     have hvj := (isOrd.val ho_21) j (by omega)
     refine K.g ?_
     refine K.a (K.QR.ix j 1 rfl rfl rfl Try.underlying23 (by kernel_rfl) (by omega) (by first | (simp; done) | omega | (simp; omega))) ?_
     refine K.d (K.iv (Q_19.getD j 0)) (K.Own.atS (c := cI64) (d := 0) (fun _ => rfl) (hS.ownr 1 rfl o_20) rfl j (by omega)) ?_
     refine K.q [K.iv (Q_19.getD j 0)] (K.z (K.t (K.s ?_)))
     obtain ⟨b_34, of_35, rfl, _⟩ := (hx _ (hS.pick [0])).at_ (by omega)
     refine K.KW.gdrawn [0, 4] hS (by kernel_rfl) ?_
     clear hS; intro w hS
     refine K.m 0 rfl (fun w hS => K.QR.ldN [.slice q1 S1.q.length cq1, .slice s1 S1.s.length cs1, .slice m1 S1.m.length cm1] rfl rfl (by kernel_rfl) (by kernel_rfl) (K.cells (K.cl ((hS.blk 1 rfl x_29).cell rfl) (K.cl ((hS.blk 1 rfl x_29).cell rfl) (K.cl ((hS.blk 1 rfl x_29).cell rfl) K.cl0))))) (hS.pick [0, 4]) ?_
     refine K.p 1 rfl (.slice (some ⟨b_34, of_35, none⟩) L.length cap) (hS.pick [0, 4]) ?_
     refine K.p 2 rfl (K.iv (Q_19.getD j 0)) (hS.pick [0, 4]) ?_
     refine K.m 3 rfl (fun w hS => K.QR.ix (of_35 + ((Q_19.getD j 0).toNat) * 11) 11 rfl rfl rfl Try.underlying22 (by kernel_rfl) (by omega) (by first | (simp; done) | omega | (simp; omega))) (hS.pick [0, 4]) ?_
     refine K.m 4 rfl (fun w hS => K.QR.ldN [K.iv ((L.getD ((Q_19.getD j 0).toNat) call0).th), K.iv ((L.getD ((Q_19.getD j 0).toNat) call0).ok), .int .u32 ((L.getD ((Q_19.getD j 0).toNat) call0).key), .int .u32 ((L.getD ((Q_19.getD j 0).toNat) call0).val), K.iv ((L.getD ((Q_19.getD j 0).toNat) call0).rk), .int .u32 ((L.getD ((Q_19.getD j 0).toNat) call0).rv), K.iv ((L.getD ((Q_19.getD j 0).toNat) call0).beg), K.iv ((L.getD ((Q_19.getD j 0).toNat) call0).en), K.iv ((L.getD ((Q_19.getD j 0).toNat) call0).wh), .bool ((L.getD ((Q_19.getD j 0).toNat) call0).cr), .bool ((L.getD ((Q_19.getD j 0).toNat) call0).kp)] rfl rfl (by kernel_rfl) (by kernel_rfl) (K.cells (K.cl ((hx _ (hS.pick [0])).ld ((Q_19.getD j 0).toNat) (by omega) 0 _ rfl) (K.cl ((hx _ (hS.pick [0])).ld ((Q_19.getD j 0).toNat) (by omega) 1 _ rfl) (K.cl ((hx _ (hS.pick [0])).ld ((Q_19.getD j 0).toNat) (by omega) 2 _ rfl) (K.cl ((hx _ (hS.pick [0])).ld ((Q_19.getD j 0).toNat) (by omega) 3 _ rfl) (K.cl ((hx _ (hS.pick [0])).ld ((Q_19.getD j 0).toNat) (by omega) 4 _ rfl) (K.cl ((hx _ (hS.pick [0])).ld ((Q_19.getD j 0).toNat) (by omega) 5 _ rfl) (K.cl ((hx _ (hS.pick [0])).ld ((Q_19.getD j 0).toNat) (by omega) 6 _ rfl) (K.cl ((hx _ (hS.pick [0])).ld ((Q_19.getD j 0).toNat) (by omega) 7 _ rfl) (K.cl ((hx _ (hS.pick [0])).ld ((Q_19.getD j 0).toNat) (by omega) 8 _ rfl) (K.cl ((hx _ (hS.pick [0])).ld ((Q_19.getD j 0).toNat) (by omega) 9 _ rfl) (K.cl ((hx _ (hS.pick [0])).ld ((Q_19.getD j 0).toNat) (by omega) 10 _ rfl) K.cl0))))))))))))) (hS.pick [0, 4]) ?_
     refine K.DW.l2 5 9 rfl rfl (by kernel_rfl) rfl rfl ?_ ?_
     ·
      refine (K.OW.gcall hS [2] [0, 1, 3, 4, 5] [.agg #[.slice q1 S1.q.length cq1, .slice s1 S1.s.length cs1, .slice m1 S1.m.length cm1], .agg #[K.iv ((L.getD ((Q_19.getD j 0).toNat) call0).th), K.iv ((L.getD ((Q_19.getD j 0).toNat) call0).ok), .int .u32 ((L.getD ((Q_19.getD j 0).toNat) call0).key), .int .u32 ((L.getD ((Q_19.getD j 0).toNat) call0).val), K.iv ((L.getD ((Q_19.getD j 0).toNat) call0).rk), .int .u32 ((L.getD ((Q_19.getD j 0).toNat) call0).rv), K.iv ((L.getD ((Q_19.getD j 0).toNat) call0).beg), K.iv ((L.getD ((Q_19.getD j 0).toNat) call0).en), K.iv ((L.getD ((Q_19.getD j 0).toNat) call0).wh), .bool ((L.getD ((Q_19.getD j 0).toNat) call0).cr), .bool ((L.getD ((Q_19.getD j 0).toNat) call0).kp)]] (next_ok _ q1 s1 m1 cq1 cs1 cm1 S1 _ (by omega) hgd _ hx1 (L.getD ((Q_19.getD j 0).toNat) call0)) ?_)
      clear hS; rintro _ _ w ⟨q_36, cq_37, s_38, cs_39, m_40, cm_41, g_42, rfl, rfl, hx_43, hg_44⟩ hS
      have hr_45 := hxq9.mono hg_44
      have hr_46 := hx1.mono hg_44
      replace hS : K.Sat w0 [g_42, gx, g_17, g_5, b2, fr] w := hS
      refine ⟨.inl (hS.pick [1, 4]), ?_⟩
      refine K.p 6 rfl (.tuple #[.agg #[.slice q_36 (((nxtT S1 (L.getD ((Q_19.getD j 0).toNat) call0)).1).q.length) cq_37, .slice s_38 (((nxtT S1 (L.getD ((Q_19.getD j 0).toNat) call0)).1).s.length) cs_39, .slice m_40 (((nxtT S1 (L.getD ((Q_19.getD j 0).toNat) call0)).1).m.length) cm_41], .bool ((nxtT S1 (L.getD ((Q_19.getD j 0).toNat) call0)).2)]) (hS.pick [1, 4]) ?_
      refine K.p 7 rfl (.agg #[.slice q_36 (((nxtT S1 (L.getD ((Q_19.getD j 0).toNat) call0)).1).q.length) cq_37, .slice s_38 (((nxtT S1 (L.getD ((Q_19.getD j 0).toNat) call0)).1).s.length) cs_39, .slice m_40 (((nxtT S1 (L.getD ((Q_19.getD j 0).toNat) call0)).1).m.length) cm_41]) (hS.pick [1, 4]) ?_
      refine K.p 8 rfl (.bool ((nxtT S1 (L.getD ((Q_19.getD j 0).toNat) call0)).2)) (hS.pick [1, 4]) ?_
      cases hb_47 : (nxtT S1 (L.getD ((Q_19.getD j 0).toNat) call0)).2
      ·
       refine K.DW.l 9 rfl (by kernel_rfl) rfl (K.OW.gnew 30 [.slice none 0 0, .slice none 0 0, .slice none 0 0] hS ?_)
       clear hS; intro w r_48 g_49 hg_50 hS
       refine ⟨.inl (hS.pick [2, 5]), ?_⟩
       refine K.DW.l 10 rfl (by kernel_rfl) rfl (K.OW.gst 0 [.slice q_36 (((nxtT S1 (L.getD ((Q_19.getD j 0).toNat) call0)).1).q.length) cq_37, .slice s_38 (((nxtT S1 (L.getD ((Q_19.getD j 0).toNat) call0)).1).s.length) cs_39, .slice m_40 (((nxtT S1 (L.getD ((Q_19.getD j 0).toNat) call0)).1).m.length) cm_41] _ hS hg_50 ?_)
       clear hS; intro w g_51 hg_52 hS
       replace hS : K.Sat w0 [g_51, g_42, gx, g_17, g_5, b2, fr] w := hS
       refine ⟨.inl (hS.pick [2, 5]), ?_⟩
       refine K.b 11 rfl (.bool false) (hS.pick [2, 5]) ?_
       refine K.DW.done (by kernel_rfl) ?_
       refine K.t (K.s (K.s (K.g (K.q [.bool false, .bool true] (K.z (K.t (K.h (K.s (K.g ?_)))))))))
       refine K.a (K.QR.bd [] [.slice none 0 0, .slice none 0 0, .slice none 0 0] rfl rfl (by kernel_rfl)) ?_
       refine K.l (K.OW.gst 4 [.slice none 0 0, .slice none 0 0, .slice none 0 0] _ hS hg_6 ?_)
       clear hS; intro w g_53 hg_54 hS
       replace hS : K.Sat w0 [g_51, g_42, gx, g_17, g_53, b2, fr] w := hS
       refine K.q [K.iv 9] (K.z (K.t (K.r (K.u ?_))))
       refine K.blk_ret ?_
       refine K.u (K.u ?_)
       refine K.blk_ret ?_
       refine K.u ?_
       refine ⟨.inr rfl, rfl, (.tuple #[.agg #[.slice none 0 0, .slice none 0 0, .slice none 0 0], K.iv 9]), K.resAt (rs := [.cell 4 30, .tmp 5]) [.agg #[.slice none 0 0, .slice none 0 0, .slice none 0 0], K.iv 9] rfl ⟨⟨_, rfl, K.lvN [.slice none 0 0, .slice none 0 0, .slice none 0 0] (by kernel_rfl) (by kernel_rfl) (K.cells (K.cl ((hS.blk 4 rfl hg_54).cell rfl) (K.cl ((hS.blk 4 rfl hg_54).cell rfl) (K.cl ((hS.blk 4 rfl hg_54).cell rfl) K.cl0))))⟩, rfl, trivial⟩, [g_42, gx], ?_, hS.pick [1, 2, 6]⟩
       exact ⟨_, rfl, (hgr.trans hg_44), .inr (.inr (.inl ⟨h_10, h2_11, Q_19, ho_21, hl_22, .inr (by have h9 := hrn; rw [runN_n (by omega) (by assumption)] at h9; simpa using h9), rfl⟩))⟩
      ·
       refine K.DW.l 9 rfl (by kernel_rfl) rfl (K.OW.gnew 30 [.slice none 0 0, .slice none 0 0, .slice none 0 0] hS ?_)
       clear hS; intro w r_55 g_56 hg_57 hS
       refine ⟨.inl (hS.pick [2, 5]), ?_⟩
       refine K.DW.l 10 rfl (by kernel_rfl) rfl (K.OW.gst 0 [.slice q_36 (((nxtT S1 (L.getD ((Q_19.getD j 0).toNat) call0)).1).q.length) cq_37, .slice s_38 (((nxtT S1 (L.getD ((Q_19.getD j 0).toNat) call0)).1).s.length) cs_39, .slice m_40 (((nxtT S1 (L.getD ((Q_19.getD j 0).toNat) call0)).1).m.length) cm_41] _ hS hg_57 ?_)
       clear hS; intro w g_58 hg_59 hS
       replace hS : K.Sat w0 [g_58, g_42, gx, g_17, g_5, b2, fr] w := hS
       refine ⟨.inl (hS.pick [2, 5]), ?_⟩
       refine K.b 11 rfl (.bool true) (hS.pick [2, 5]) ?_
       refine K.DW.done (by kernel_rfl) ?_
       refine K.t (K.s (K.s (K.g (K.q [.bool true, .bool false] (K.z (K.t (K.f (K.k (K.t (K.g ?_))))))))))
       refine K.a (K.QR.ldN [.slice q_36 (((nxtT S1 (L.getD ((Q_19.getD j 0).toNat) call0)).1).q.length) cq_37, .slice s_38 (((nxtT S1 (L.getD ((Q_19.getD j 0).toNat) call0)).1).s.length) cs_39, .slice m_40 (((nxtT S1 (L.getD ((Q_19.getD j 0).toNat) call0)).1).m.length) cm_41] rfl rfl (by kernel_rfl) (by kernel_rfl) (K.cells (K.cl ((hS.blk 0 rfl hg_59).cell rfl) (K.cl ((hS.blk 0 rfl hg_59).cell rfl) (K.cl ((hS.blk 0 rfl hg_59).cell rfl) K.cl0))))) ?_
       refine K.l (K.OW.gst 5 [.slice q_36 (((nxtT S1 (L.getD ((Q_19.getD j 0).toNat) call0)).1).q.length) cq_37, .slice s_38 (((nxtT S1 (L.getD ((Q_19.getD j 0).toNat) call0)).1).s.length) cs_39, .slice m_40 (((nxtT S1 (L.getD ((Q_19.getD j 0).toNat) call0)).1).m.length) cm_41] _ hS x_29 ?_)
       clear hS; intro w g_60 hg_61 hS
       replace hS : K.Sat w0 [g_58, g_42, gx, g_17, g_5, g_60, fr] w := hS
       refine K.z ?_
       refine K.blk_normal ?_
       refine K.t (K.g ?_)
       refine K.a (K.QR.n64 ((((j : Nat) : Int) : Int) + (1 : Int)) ((j + 1 : Nat) : Int) (by kernel_rfl) (by omega)) ?_
       refine K.q [K.iv ((j + 1 : Nat) : Int)] (K.z (K.t ?_))
       refine ⟨_, ?_, j + 1, q_36, cq_37, s_38, cs_39, m_40, cm_41, ((nxtT S1 (L.getD ((Q_19.getD j 0).toNat) call0)).1), g_60, g_42, rfl, ⟨by rfl, by rfl, by rfl, by rfl, by rfl, by rfl, by rfl, by rfl, trivial⟩, (by omega), (by rw [← runN_y (by omega) (by assumption)]; exact hrn), (hgd.nxt), (hx_43), ((hgr.trans hg_44)), hg_61, trivial, hS.pick [2, 3, 1, 4, 5, 6]⟩
       omega
     ·
      refine (K.OW.gnew 30 [.slice none 0 0, .slice none 0 0, .slice none 0 0] hS ?_)
      clear hS; intro w r_62 g_63 hg_64 hS
      refine ⟨.inl (hS.pick [1, 5]), ?_⟩
      refine K.DW.l 5 rfl (by kernel_rfl) rfl (K.OW.gcall hS [3] [0, 1, 2, 4, 5, 6] [.agg #[.slice q1 S1.q.length cq1, .slice s1 S1.s.length cs1, .slice m1 S1.m.length cm1], .agg #[K.iv ((L.getD ((Q_19.getD j 0).toNat) call0).th), K.iv ((L.getD ((Q_19.getD j 0).toNat) call0).ok), .int .u32 ((L.getD ((Q_19.getD j 0).toNat) call0).key), .int .u32 ((L.getD ((Q_19.getD j 0).toNat) call0).val), K.iv ((L.getD ((Q_19.getD j 0).toNat) call0).rk), .int .u32 ((L.getD ((Q_19.getD j 0).toNat) call0).rv), K.iv ((L.getD ((Q_19.getD j 0).toNat) call0).beg), K.iv ((L.getD ((Q_19.getD j 0).toNat) call0).en), K.iv ((L.getD ((Q_19.getD j 0).toNat) call0).wh), .bool ((L.getD ((Q_19.getD j 0).toNat) call0).cr), .bool ((L.getD ((Q_19.getD j 0).toNat) call0).kp)]] (next_ok _ q1 s1 m1 cq1 cs1 cm1 S1 _ (by omega) hgd _ hx1 (L.getD ((Q_19.getD j 0).toNat) call0)) ?_)
      clear hS; rintro _ _ w ⟨q_65, cq_66, s_67, cs_68, m_69, cm_70, g_71, rfl, rfl, hx_72, hg_73⟩ hS
      have hr_74 := hxq9.mono hg_73
      have hr_75 := hx1.mono hg_73
      replace hS : K.Sat w0 [g_71, g_63, gx, g_17, g_5, b2, fr] w := hS
      refine ⟨.inl (hS.pick [2, 5]), ?_⟩
      refine K.b 6 rfl (.tuple #[.agg #[.slice q_65 (((nxtT S1 (L.getD ((Q_19.getD j 0).toNat) call0)).1).q.length) cq_66, .slice s_67 (((nxtT S1 (L.getD ((Q_19.getD j 0).toNat) call0)).1).s.length) cs_68, .slice m_69 (((nxtT S1 (L.getD ((Q_19.getD j 0).toNat) call0)).1).m.length) cm_70], .bool ((nxtT S1 (L.getD ((Q_19.getD j 0).toNat) call0)).2)]) (hS.pick [2, 5]) ?_
      refine K.p 7 rfl (.agg #[.slice q_65 (((nxtT S1 (L.getD ((Q_19.getD j 0).toNat) call0)).1).q.length) cq_66, .slice s_67 (((nxtT S1 (L.getD ((Q_19.getD j 0).toNat) call0)).1).s.length) cs_68, .slice m_69 (((nxtT S1 (L.getD ((Q_19.getD j 0).toNat) call0)).1).m.length) cm_70]) (hS.pick [2, 5]) ?_
      refine K.p 8 rfl (.bool ((nxtT S1 (L.getD ((Q_19.getD j 0).toNat) call0)).2)) (hS.pick [2, 5]) ?_
      cases hb_76 : (nxtT S1 (L.getD ((Q_19.getD j 0).toNat) call0)).2
      ·
       refine K.DW.l 10 rfl (by kernel_rfl) rfl (K.OW.gst 1 [.slice q_65 (((nxtT S1 (L.getD ((Q_19.getD j 0).toNat) call0)).1).q.length) cq_66, .slice s_67 (((nxtT S1 (L.getD ((Q_19.getD j 0).toNat) call0)).1).s.length) cs_68, .slice m_69 (((nxtT S1 (L.getD ((Q_19.getD j 0).toNat) call0)).1).m.length) cm_70] _ hS hg_64 ?_)
       clear hS; intro w g_77 hg_78 hS
       replace hS : K.Sat w0 [g_71, g_77, gx, g_17, g_5, b2, fr] w := hS
       refine ⟨.inl (hS.pick [2, 5]), ?_⟩
       refine K.b 11 rfl (.bool false) (hS.pick [2, 5]) ?_
       refine K.DW.done (by kernel_rfl) ?_
       refine K.t (K.s (K.s (K.g (K.q [.bool false, .bool true] (K.z (K.t (K.h (K.s (K.g ?_)))))))))
       refine K.a (K.QR.bd [] [.slice none 0 0, .slice none 0 0, .slice none 0 0] rfl rfl (by kernel_rfl)) ?_
       refine K.l (K.OW.gst 4 [.slice none 0 0, .slice none 0 0, .slice none 0 0] _ hS hg_6 ?_)
       clear hS; intro w g_79 hg_80 hS
       replace hS : K.Sat w0 [g_71, g_77, gx, g_17, g_79, b2, fr] w := hS
       refine K.q [K.iv 9] (K.z (K.t (K.r (K.u ?_))))
       refine K.blk_ret ?_
       refine K.u (K.u ?_)
       refine K.blk_ret ?_
       refine K.u ?_
       refine ⟨.inr rfl, rfl, (.tuple #[.agg #[.slice none 0 0, .slice none 0 0, .slice none 0 0], K.iv 9]), K.resAt (rs := [.cell 4 30, .tmp 5]) [.agg #[.slice none 0 0, .slice none 0 0, .slice none 0 0], K.iv 9] rfl ⟨⟨_, rfl, K.lvN [.slice none 0 0, .slice none 0 0, .slice none 0 0] (by kernel_rfl) (by kernel_rfl) (K.cells (K.cl ((hS.blk 4 rfl hg_80).cell rfl) (K.cl ((hS.blk 4 rfl hg_80).cell rfl) (K.cl ((hS.blk 4 rfl hg_80).cell rfl) K.cl0))))⟩, rfl, trivial⟩, [g_71, gx], ?_, hS.pick [0, 2, 6]⟩
       exact ⟨_, rfl, (hgr.trans hg_73), .inr (.inr (.inl ⟨h_10, h2_11, Q_19, ho_21, hl_22, .inr (by have h9 := hrn; rw [runN_n (by omega) (by assumption)] at h9; simpa using h9), rfl⟩))⟩
      ·
       refine K.DW.l 10 rfl (by kernel_rfl) rfl (K.OW.gst 1 [.slice q_65 (((nxtT S1 (L.getD ((Q_19.getD j 0).toNat) call0)).1).q.length) cq_66, .slice s_67 (((nxtT S1 (L.getD ((Q_19.getD j 0).toNat) call0)).1).s.length) cs_68, .slice m_69 (((nxtT S1 (L.getD ((Q_19.getD j 0).toNat) call0)).1).m.length) cm_70] _ hS hg_64 ?_)
       clear hS; intro w g_81 hg_82 hS
       replace hS : K.Sat w0 [g_71, g_81, gx, g_17, g_5, b2, fr] w := hS
       refine ⟨.inl (hS.pick [2, 5]), ?_⟩
       refine K.b 11 rfl (.bool true) (hS.pick [2, 5]) ?_
       refine K.DW.done (by kernel_rfl) ?_
       refine K.t (K.s (K.s (K.g (K.q [.bool true, .bool false] (K.z (K.t (K.f (K.k (K.t (K.g ?_))))))))))
       refine K.a (K.QR.ldN [.slice q_65 (((nxtT S1 (L.getD ((Q_19.getD j 0).toNat) call0)).1).q.length) cq_66, .slice s_67 (((nxtT S1 (L.getD ((Q_19.getD j 0).toNat) call0)).1).s.length) cs_68, .slice m_69 (((nxtT S1 (L.getD ((Q_19.getD j 0).toNat) call0)).1).m.length) cm_70] rfl rfl (by kernel_rfl) (by kernel_rfl) (K.cells (K.cl ((hS.blk 1 rfl hg_82).cell rfl) (K.cl ((hS.blk 1 rfl hg_82).cell rfl) (K.cl ((hS.blk 1 rfl hg_82).cell rfl) K.cl0))))) ?_
       refine K.l (K.OW.gst 5 [.slice q_65 (((nxtT S1 (L.getD ((Q_19.getD j 0).toNat) call0)).1).q.length) cq_66, .slice s_67 (((nxtT S1 (L.getD ((Q_19.getD j 0).toNat) call0)).1).s.length) cs_68, .slice m_69 (((nxtT S1 (L.getD ((Q_19.getD j 0).toNat) call0)).1).m.length) cm_70] _ hS x_29 ?_)
       clear hS; intro w g_83 hg_84 hS
       replace hS : K.Sat w0 [g_71, g_81, gx, g_17, g_5, g_83, fr] w := hS
       refine K.z ?_
       refine K.blk_normal ?_
       refine K.t (K.g ?_)
       refine K.a (K.QR.n64 ((((j : Nat) : Int) : Int) + (1 : Int)) ((j + 1 : Nat) : Int) (by kernel_rfl) (by omega)) ?_
       refine K.q [K.iv ((j + 1 : Nat) : Int)] (K.z (K.t ?_))
       refine ⟨_, ?_, j + 1, q_65, cq_66, s_67, cs_68, m_69, cm_70, ((nxtT S1 (L.getD ((Q_19.getD j 0).toNat) call0)).1), g_83, g_71, rfl, ⟨by rfl, by rfl, by rfl, by rfl, by rfl, by rfl, by rfl, by rfl, trivial⟩, (by omega), (by rw [← runN_y (by omega) (by assumption)]; exact hrn), (hgd.nxt), (hx_72), ((hgr.trans hg_73)), hg_84, trivial, hS.pick [2, 3, 0, 4, 5, 6]⟩
       omega
    ·
     refine K.x ((((j : Nat) : Int) : Int) < (((Q_19.length : Nat) : Int) : Int)) h_31 ?_
     refine K.z (K.t (K.s (K.f ?_)))
     refine K.KW.exit ?_
     refine K.thn_exit ?_
     refine K.thn_exit ?_
     refine K.blk_hit ?_
     refine K.t (K.s (K.g ?_))
     refine K.a (K.QR.ldN [.slice q1 S1.q.length cq1, .slice s1 S1.s.length cs1, .slice m1 S1.m.length cm1] rfl rfl (by kernel_rfl) (by kernel_rfl) (K.cells (K.cl ((hS.blk 4 rfl x_29).cell rfl) (K.cl ((hS.blk 4 rfl x_29).cell rfl) (K.cl ((hS.blk 4 rfl x_29).cell rfl) K.cl0))))) ?_
     refine K.l (K.OW.gst 3 [.slice q1 S1.q.length cq1, .slice s1 S1.s.length cs1, .slice m1 S1.m.length cm1] _ hS hg_6 ?_)
     clear hS; intro w g_85 hg_86 hS
     replace hS : K.Sat w0 [gx, g_17, g1, g_85, b2, fr] w := hS
     refine K.q [K.iv 0] (K.z (K.t (K.r ?_)))
     refine ⟨.inr rfl, rfl, (.tuple #[.agg #[.slice q1 S1.q.length cq1, .slice s1 S1.s.length cs1, .slice m1 S1.m.length cm1], K.iv 0]), K.resAt (rs := [.cell 4 30, .tmp 5]) [.agg #[.slice q1 S1.q.length cq1, .slice s1 S1.s.length cs1, .slice m1 S1.m.length cm1], K.iv 0] rfl ⟨⟨_, rfl, K.lvN [.slice q1 S1.q.length cq1, .slice s1 S1.s.length cs1, .slice m1 S1.m.length cm1] (by kernel_rfl) (by kernel_rfl) (K.cells (K.cl ((hS.blk 3 rfl hg_86).cell rfl) (K.cl ((hS.blk 3 rfl hg_86).cell rfl) (K.cl ((hS.blk 3 rfl hg_86).cell rfl) K.cl0))))⟩, rfl, trivial⟩, [g1, gx], ?_, hS.pick [2, 0, 5]⟩
     exact ⟨_, rfl, hgr, .inr (.inr (.inr ⟨h_10, h2_11, Q_19, ho_21, hl_22, h_23, S1, q1, cq1, s1, cs1, m1, cm1, by have h9 := hrn; rw [runN_end (by omega)] at h9; simpa using h9, hgd.le (by omega), rfl, hx1⟩))⟩
  ·
   replace hS : K.Sat w0 [gx, g_17, g, g_5, g_2, fr] w := hS
   refine K.q [.bool true] (K.z (K.t (K.h (K.s (K.g ?_)))))
   refine K.a (K.QR.bd [] [.slice none 0 0, .slice none 0 0, .slice none 0 0] rfl rfl (by kernel_rfl)) ?_
   refine K.l (K.OW.gst 3 [.slice none 0 0, .slice none 0 0, .slice none 0 0] _ hS hg_6 ?_)
   clear hS; intro w g_87 hg_88 hS
   replace hS : K.Sat w0 [gx, g_17, g, g_87, g_2, fr] w := hS
   refine K.q [K.iv 9] (K.z (K.t (K.r (K.u ?_))))
   refine ⟨.inr rfl, rfl, (.tuple #[.agg #[.slice none 0 0, .slice none 0 0, .slice none 0 0], K.iv 9]), K.resAt (rs := [.cell 4 30, .tmp 5]) [.agg #[.slice none 0 0, .slice none 0 0, .slice none 0 0], K.iv 9] rfl ⟨⟨_, rfl, K.lvN [.slice none 0 0, .slice none 0 0, .slice none 0 0] (by kernel_rfl) (by kernel_rfl) (K.cells (K.cl ((hS.blk 3 rfl hg_88).cell rfl) (K.cl ((hS.blk 3 rfl hg_88).cell rfl) (K.cl ((hS.blk 3 rfl hg_88).cell rfl) K.cl0))))⟩, rfl, trivial⟩, [g, gx], ?_, hS.pick [2, 0, 5]⟩
   exact ⟨_, rfl, (Grow.refl w0 g), .inr (.inr (.inl ⟨h_10, h2_11, Q_19, ho_21, hl_22, .inl h_24, rfl⟩))⟩
end Go.Proofs.Ytnehocjmgnhhhaa
