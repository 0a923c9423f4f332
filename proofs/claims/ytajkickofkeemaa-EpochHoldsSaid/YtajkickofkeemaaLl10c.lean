/- The statement EpochHolds. -/
import Derived.Test.YtajkickofkeemaaFl10d
import Derived.Test.YtajkickofkeemaaKn
namespace Go.Proofs.Ytajkickofkeemaa
open Go.RowKit
set_option linter.unusedVariables false
attribute [local irreducible] K.KW K.RW K.DW K.OW K.QR K.KC

def cRaw (l : List Value) : List Value := l
def handEl (b : Nat) (h : HandE) (c : List Value) (g : K.Cs) : Prop := ∃ u v w, c = [.pointer u, .pointer v, .pointer w, .bool h.inn, .int .u64 h.at_] ∧ MachEl b h.x u v w g
theorem g0_peek {n t k : Nat} {i : Int} (h : i < 0 ∧ -1 - i < k) : (groundM n t k []).peek n i = some 0 := by
 show (MemM.of (DevM.fresh (List.replicate (n * 8) 0) n t) k).peek n i = _
 rw [peek_pass (by simpa [MemM.of] using h)]
 have : (-1 - i).toNat < k := by omega
 simp [MemM.of, this]
theorem g0_ann {n t k : Nat} (j : Nat) : annW n (groundM n t k []) j = 0 := by
 unfold annW
 by_cases h : -1 - (-3 - (j : Int)) < k
 ·rw [g0_peek ⟨by omega, h⟩]; rfl
 ·rw [peek_nopass (by omega) (by rw [show (groundM n t k []).pass.length = k from ground_pass]; omega)]; rfl

set_option maxHeartbeats 1000000 in
set_option maxRecDepth 100000 in
theorem l10holds_ok (w0 : World) (c : Cfg) (a : Option Addr) (cap : Nat) (xs : List Int) (hx8 : ∀ i, i < xs.length → 0 ≤ xs.getD i 0 ∧ xs.getD i 0 ≤ 255) (hm : xs.length ≤ 9223372036854775807) (hx : K.RowE w0 a xs.length 1 (fun i => cU8 (xs.getD i 0))) :
  K.GC Try.prog w0 6 #[.agg #[.int .i64 c.th, .int .i64 c.sl, .int .i64 c.lo, .int .i64 c.bu], .slice a xs.length cap] [] (fun v post => v = .bool true) := by
 refine K.GC.mk (n := 148) Try.func6 rfl rfl [.agg #[.int .i64 c.th, .int .i64 c.sl, .int .i64 c.lo, .int .i64 c.bu], .slice a xs.length cap] rfl rfl ?_
 intro fr w hS
 replace hS : K.Sat w0 [fr] w := hS
 refine K.s (K.g ?_)
 refine K.l (K.OW.gnew 23 [.int .i64 c.th, .int .i64 c.sl, .int .i64 c.lo, .int .i64 c.bu] hS ?_)
 clear hS; intro w r_1 g_2 hg_3 hS
 refine K.q [.bool false] (K.z (K.t (K.s (K.s (K.g ?_)))))
 refine K.a (K.QR.ldN [.int .i64 c.th, .int .i64 c.sl, .int .i64 c.lo, .int .i64 c.bu] rfl rfl (by kernel_rfl) (by kernel_rfl) (K.cells (K.cl ((hS.blk 0 rfl hg_3).cell rfl) (K.cl ((hS.blk 0 rfl hg_3).cell rfl) (K.cl ((hS.blk 0 rfl hg_3).cell rfl) (K.cl ((hS.blk 0 rfl hg_3).cell rfl) K.cl0)))))) ?_
 refine K.l (K.OW.gcall hS [] [0, 1] [.agg #[.int .i64 c.th, .int .i64 c.sl, .int .i64 c.lo, .int .i64 c.bu]] (few09_ok _ c) ?_)
 clear hS; rintro _ _ w ⟨rfl, (⟨rfl, h_4⟩ | ⟨rfl, h_5⟩)⟩ hS
 ·
  replace hS : K.Sat w0 [g_2, fr] w := hS
  have hc_6 := h_4.1
  obtain ⟨hf_7, hf_8, hf_9, hf_10, hf_11⟩ := (show _ from (by have h := h_4; unfold fewC cfgOk at h; exact h))
  refine K.q [.bool false, .bool false, .slice a xs.length cap] ?_
  refine K.a (K.QR.len (P := Try.prog) rfl rfl Try.underlying25) ?_
  by_cases h_12 : (((xs.length : Nat) : Int) : Int) > (300 : Int)
  ·
   refine K.y ((((xs.length : Nat) : Int) : Int) > (300 : Int)) h_12 ?_
   refine K.q [.bool true] (K.z (K.t (K.h (K.s (K.g ?_)))))
   refine K.l (K.OW.gcall hS [] [0, 1] [] (awake10_ok _) ?_)
   clear hS; rintro _ _ w ⟨rfl, rfl⟩ hS
   replace hS : K.Sat w0 [g_2, fr] w := hS
   refine K.q [.bool true] (K.z (K.t (K.r (K.u ?_))))
   refine ⟨.inr rfl, rfl, (.bool true), K.res1 rfl rfl, [], ?_, hS.pick [1]⟩
   exact rfl
  ·
   refine K.x ((((xs.length : Nat) : Int) : Int) > (300 : Int)) h_12 ?_
   refine K.q [.bool false] (K.z (K.t (K.f (K.k (K.t (K.s (K.g ?_)))))))
   refine K.a (K.QR.ldN [.int .i64 c.th, .int .i64 c.sl, .int .i64 c.lo, .int .i64 c.bu] rfl rfl (by kernel_rfl) (by kernel_rfl) (K.cells (K.cl ((hS.blk 0 rfl hg_3).cell rfl) (K.cl ((hS.blk 0 rfl hg_3).cell rfl) (K.cl ((hS.blk 0 rfl hg_3).cell rfl) (K.cl ((hS.blk 0 rfl hg_3).cell rfl) K.cl0)))))) ?_
   refine K.a (K.QR.bd [(0, .agg #[.int .i64 c.th, .int .i64 c.sl, .int .i64 c.lo, .int .i64 c.bu])] [.int .i64 c.th, .int .i64 c.sl, .int .i64 c.lo, .int .i64 c.bu, .slice none 0 0] rfl rfl (by kernel_rfl)) ?_
   refine K.l (K.OW.gcall hS [52] [0, 1] [.agg #[.int .i64 c.th, .int .i64 c.sl, .int .i64 c.lo, .int .i64 c.bu, .slice none 0 0]] (layS_ok _ c _ _ [] (fun j hj => absurd hj (by simp)) (⟨by assumption, by decide⟩) _ (fun _ _ => K.RowE.zero _ _ _ _)) ?_)
   clear hS; rintro _ _ w ⟨b_13, p_14, q_15, r_16, u_17, _, _, gl_18, l_19, m_20, rfl, rfl, hl_21, x_22, y_23, rfl, rfl, hf_24, hp_25⟩ hS
   replace hS : K.Sat w0 [gl_18, l_19, m_20, g_2, fr] w := hS.of (by simp [K.pick, K.nth])
   have hM0 : (groundM ((lns c).toNat) (c.th.toNat) (2 + c.th + c.sl).toNat []).good := ground_good (fun j hj => absurd hj (by simp))
   have hp0 : (groundM ((lns c).toNat) (c.th.toNat) (2 + c.th + c.sl).toNat []).peek ((lns c).toNat) (-1) = some 0 := g0_peek (by omega)
   have ha0 : ∀ k : Nat, annW ((lns c).toNat) (groundM ((lns c).toNat) (c.th.toNat) (2 + c.th + c.sl).toNat []) k = 0 := fun k => g0_ann k
   have hl0 : ((groundM ((lns c).toNat) (c.th.toNat) (2 + c.th + c.sl).toNat []).pass.length : Int) = 2 + c.th + c.sl := by rw [ground_pass]; omega
   generalize groundM ((lns c).toNat) (c.th.toNat) (2 + c.th + c.sl).toNat [] = M0 at x_22 hM0 hp0 ha0 hl0
   refine K.q [.tuple #[.pointer (some ⟨b_13, 0, none⟩), .pointer (some ⟨p_14, 0, none⟩), .pointer (some ⟨r_16, 0, none⟩), .bool true], .pointer (some ⟨b_13, 0, none⟩), .pointer (some ⟨p_14, 0, none⟩), .pointer (some ⟨r_16, 0, none⟩), .bool true, .pointer (some ⟨b_13, 0, none⟩), .pointer (some ⟨p_14, 0, none⟩), .pointer (some ⟨r_16, 0, none⟩), .bool true] (K.z (K.t (K.s (K.g (K.q [.pointer (some ⟨r_1, 0, none⟩)] ?_)))))
   refine K.a (K.QR.turn (v := .int .i64 c.th) (K.QR.ld1 (v := .int .i64 c.th) rfl rfl (by kernel_rfl) ((hS.blk 3 rfl hg_3).cell rfl)) (congrArg (Value.int .i64) (show (c.th : Int) = (((c.th.toNat : Nat) : Int) : Int) from by omega))) ?_
   refine K.l (K.OW.gmk (P := Try.prog) (m := c.th.toNat) (cc := cRaw) (z := .agg #[.pointer none, .pointer none, .pointer none, .bool false, .int .u64 0]) (size := 5) (bytes := 40) ([.pointer none, .pointer none, .pointer none, .bool false, .int .u64 0] : List Value) hS ?_ Try.underlying51 (by kernel_rfl) rfl rfl (by unfold maxLen; omega) (by omega))
   clear hS; intro w r_26 l_27 o_28 hS
   refine K.q [.slice (some ⟨r_26, 0, none⟩) c.th.toNat c.th.toNat] (K.z (K.t (K.s (K.s (K.g (K.q [.int .i64 0] (K.z (K.t ?_))))))))
   refine K.KW.block ?_
   have hd_29 : K.Hands (handEl b_13) 58 5 l_27 ((some ⟨r_26, 0, none⟩)) (List.replicate c.th.toNat (⟨.no, false, 0⟩ : HandE)) := K.Hands.init (by have h := o_28; rwa [K.rep_flat] at h) rfl ⟨_, _, _, rfl, rfl, rfl, rfl, rfl⟩
   refine K.KW.loop (fun m_ F_ w_ => ∃ (j : Nat) (hs : List HandE) (M : MemM) (e : Int) (hd1 : K.Cs) (l1 : K.Cs), m_ = xs.length - j ∧ K.Sl F_ [(0, .agg #[.int .i64 c.th, .int .i64 c.sl, .int .i64 c.lo, .int .i64 c.bu]), (1, .slice a xs.length cap), (2, .pointer (some ⟨r_1, 0, none⟩)), (5, .pointer (some ⟨b_13, 0, none⟩)), (6, .pointer (some ⟨p_14, 0, none⟩)), (8, .bool true), (9, .slice (some ⟨r_26, 0, none⟩) c.th.toNat c.th.toNat), (10, .int .i64 ((j : Nat) : Int)), (148, undef)] ∧ j ≤ xs.length ∧ HInv c (lns c).toNat hs M e j ∧ K.Hands (handEl b_13) 58 5 hd1 ((some ⟨r_26, 0, none⟩)) hs ∧ MemAt l1 p_14 q_15 ((lns c).toNat) (c.th.toNat) M ∧ K.Sat w0 [hd1, gl_18, l1, m_20, g_2, fr] w_) ((fun (j : Nat) (hs : List HandE) (M : MemM) (e : Int) => xs.length - j) 0 (List.replicate c.th.toNat ⟨.no, false, 0⟩) M0 0) ?_ ?_
   ·
    exact ⟨0, (List.replicate c.th.toNat ⟨.no, false, 0⟩), M0, 0, l_27, l_19, rfl, ⟨by rfl, by rfl, by rfl, by rfl, by rfl, by rfl, by rfl, by rfl, by rfl, trivial⟩, (by omega), (HInv.start hM0 hl0 hp0 ha0), hd_29, x_22, hS.pick [0, 1, 2, 3, 4, 5]⟩
   ·
    clear hS
    intro m_30 F_31 w hI
    obtain ⟨j, hs, M, e, hd1, l1, rfl, sl_32, p_33, hI, x_34, x_35, hS⟩ := hI
    rw [← K.Sl.puts sl_32]; clear sl_32
    refine K.s (K.s (K.g (K.q [.int .i64 ((j : Nat) : Int), .slice a xs.length cap] ?_)))
    refine K.a (K.QR.len (P := Try.prog) rfl rfl Try.underlying25) ?_
    by_cases h_36 : (((j : Nat) : Int) : Int) < (((xs.length : Nat) : Int) : Int)
    ·
     refine K.y ((((j : Nat) : Int) : Int) < (((xs.length : Nat) : Int) : Int)) h_36 ?_
     refine K.z (K.t (K.h (K.k (K.t (K.s ?_)))))
     refine K.KW.block ?_
     refine K.s ?_
     have hx8j := hx8 j (by omega)
     have hrl : 0 ≤ (((xs.getD j 0 : Int) % 8)) % ((c.th : Int)) ∧ (((xs.getD j 0 : Int) % 8)) % ((c.th : Int)) < (c.th : Int) := ⟨Int.emod_nonneg _ (by omega), Int.emod_lt_of_pos _ (by omega)⟩
     obtain ⟨tk, htk⟩ : ∃ q : Nat, ((((xs.getD j 0 : Int) % 8)) % ((c.th : Int)) : Int) = q := ⟨((((xs.getD j 0 : Int) % 8)) % ((c.th : Int)) : Int).toNat, by omega⟩
     obtain ⟨b_37, of_38, rfl, _⟩ := hx.at_ (by omega)
     refine K.KW.gdrawn [] hS (by kernel_rfl) ?_
     clear hS; intro w hS
     refine K.DW.q 0 (by kernel_rfl) rfl rfl (by kernel_rfl) rfl (fun w hS => K.QR.k (v := .slice (some ⟨b_37, of_38, none⟩) xs.length cap) (by kernel_rfl)) (hS.pick []) ?_
     refine K.DW.q 1 (by kernel_rfl) rfl rfl (by kernel_rfl) rfl (fun w hS => K.QR.k (v := .int .i64 ((j : Nat) : Int)) (by kernel_rfl)) (hS.pick []) ?_
     refine K.DW.q 2 (by kernel_rfl) rfl rfl (by kernel_rfl) rfl (fun w hS => K.QR.ix (of_38 + j * 1) 1 rfl rfl rfl Try.underlying25 (by kernel_rfl) (by omega) (by first | (simp; done) | omega | (simp; omega))) (hS.pick []) ?_
     refine K.DW.q 3 (by kernel_rfl) rfl rfl (by kernel_rfl) rfl (fun w hS => K.QR.ld1 (v := .int .u8 (xs.getD j 0)) rfl rfl (by kernel_rfl) ((hx.no hS.chg).ld j (by omega) 0 _ rfl)) (hS.pick []) ?_
     refine K.DW.q 4 (by kernel_rfl) rfl rfl (by kernel_rfl) rfl (fun w hS => K.QR.remany (k := .u8) (xs.getD j 0 : Int) 8 ((xs.getD j 0 : Int) % 8) (by kernel_rfl) (by omega) (by omega)) (hS.pick []) ?_
     refine K.DW.q 5 (by kernel_rfl) rfl rfl (by kernel_rfl) rfl (fun w hS => K.QR.nice (v := .int .i64 (IntKind.i64.wrap ((xs.getD j 0 : Int) % 8))) (by kernel_rfl) (congrArg (Value.int .i64) (IntWalk.i64_in _ (by omega)))) (hS.pick []) ?_
     refine K.DW.l 6 rfl (by kernel_rfl) rfl (K.OW.q rfl (K.QR.k (v := .pointer (some ⟨r_1, 0, none⟩)) (by kernel_rfl)) ?_)
     refine ⟨.inl (hS.pick []), ?_⟩
     refine K.DW.l 7 rfl (by kernel_rfl) rfl (K.OW.q rfl (K.QR.ld1 (v := .int .i64 c.th) rfl rfl (by kernel_rfl) ((hS.blk 4 rfl hg_3).cell rfl)) ?_)
     refine ⟨.inl (hS.pick []), ?_⟩
     refine K.DW.l 8 rfl (by kernel_rfl) rfl (K.OW.q rfl (K.QR.remV rfl rfl rfl (by omega) (by omega) htk) ?_)
     refine ⟨.inl (hS.pick []), ?_⟩
     refine K.DW.l 9 rfl (by kernel_rfl) rfl (K.OW.q rfl (K.QR.k (v := .int .i64 ((tk : Nat) : Int)) (by kernel_rfl)) ?_)
     refine ⟨.inl (hS.pick []), ?_⟩
     refine K.DW.done (by kernel_rfl) ?_
     refine K.t (K.s (K.g (K.q [.slice (some ⟨r_26, 0, none⟩) c.th.toNat c.th.toNat, .int .i64 ((tk : Nat) : Int)] ?_)))
     refine K.a (K.QR.ix (0 + tk * 5) 5 rfl rfl rfl Try.underlying51 (by kernel_rfl) (by omega) (by first | (simp; done) | omega | (simp; omega))) ?_
     refine K.q [.pointer (some ⟨r_26, 0 + tk * 5, none⟩)] (K.z (K.t (K.s (K.s ?_))))
     have hlen := hI.len
     obtain ⟨h0, hSo⟩ := hs_at (hs := hs) (t := tk) (by omega)
     have hxg := hI.mg tk _ hSo
     have hok0 := hI.ok tk _ hSo
     have hMg := hI.good
     have heb := hI.eb
     obtain ⟨row_39, hA_40, hg_41, hB_42, cs_43, rfl, hcs_44, hall_45, htl_46, hct_47, hel_48, how_49, hcl_50⟩ := x_34.open_ tk h0 hSo
     replace hS : K.Sat w0 [row_39, hA_40, hg_41, hB_42, gl_18, l1, m_20, g_2, fr] w := hS.of
     obtain ⟨u, v, w1, hce, hmx⟩ := hel_48
     rw [hce] at how_49
     replace hS : K.Sat w0 [row_39, hA_40, hg_41, hB_42, gl_18, l1, m_20, g_2, fr] w := hS.of (by simp [K.pick, K.nth])
     refine K.g (K.q [.pointer (some ⟨r_26, 0 + tk * 5, none⟩), .pointer (some ⟨r_26, 0 + tk * 5, none⟩), .pointer (some ⟨r_26, 0 + tk * 5, none⟩)] ?_)
     refine K.a (K.QR.ldN [.pointer u, .pointer v, .pointer w1] rfl rfl (by kernel_rfl) (by kernel_rfl) (K.cells (K.cl (K.row_at0 (j := 0) (hS.ownr 0 rfl how_49) hcs_44 hall_45 rfl htl_46 rfl) (K.cl (K.row_at0 (j := 1) (hS.ownr 0 rfl how_49) hcs_44 hall_45 rfl htl_46 rfl) (K.cl (K.row_at0 (j := 2) (hS.ownr 0 rfl how_49) hcs_44 hall_45 rfl htl_46 rfl) K.cl0))))) ?_
     refine K.l (K.OW.gcall hS [2] [0, 1, 3, 4, 5, 6, 7, 8] [.agg #[.pointer u, .pointer v, .pointer w1]] (machDone_ok _ _ h0.x _ _ _ _ hmx) ?_)
     clear hS; rintro _ _ w ⟨rfl, rfl⟩ hS
     replace hS : K.Sat w0 [hg_41, row_39, hA_40, hB_42, gl_18, l1, m_20, g_2, fr] w := hS
     cases hb_51 : h0.x.done
     ·
      refine K.z (K.t (K.f (K.k (K.t (K.s (K.g (K.q [.pointer (some ⟨r_26, 0 + tk * 5, none⟩), .pointer (some ⟨r_26, 0 + tk * 5, none⟩), .pointer (some ⟨r_26, 0 + tk * 5, none⟩)] ?_)))))))
      refine K.a (K.QR.ldN [.pointer u, .pointer v, .pointer w1] rfl rfl (by kernel_rfl) (by kernel_rfl) (K.cells (K.cl (K.row_at0 (j := 0) (hS.ownr 1 rfl how_49) hcs_44 hall_45 rfl htl_46 rfl) (K.cl (K.row_at0 (j := 1) (hS.ownr 1 rfl how_49) hcs_44 hall_45 rfl htl_46 rfl) (K.cl (K.row_at0 (j := 2) (hS.ownr 1 rfl how_49) hcs_44 hall_45 rfl htl_46 rfl) K.cl0))))) ?_
      refine K.q [.pointer (some ⟨p_14, 0, none⟩)] ?_
      refine K.l (K.OW.gcall hS [0, 4, 5] [1, 2, 3, 6, 7, 8] [.agg #[.pointer u, .pointer v, .pointer w1], .pointer (some ⟨p_14, 0, none⟩)] (machStep_ok _ _ _ _ _ _ c (by first | assumption | (unfold cfgOk; decide)) h0.x M _ _ _ _ _ _ hmx hl_21 x_35 (by assumption) (by assumption) (by assumption)) ?_)
      clear hS; rintro _ _ w ⟨g_52, l_53, rfl, rfl, h_54, x_55⟩ hS
      replace hS : K.Sat w0 [g_52, gl_18, l_53, row_39, hA_40, hB_42, m_20, g_2, fr] w := hS
      obtain ⟨hx_56, hM_57⟩ := (stepE_good (by first | assumption | (unfold cfgOk; decide)) (by assumption) (by assumption) : (stepE c ((lns c).toNat) h0.x M).1.good ∧ (stepE c ((lns c).toNat) h0.x M).2.good)
      refine K.z (K.t (K.s ?_))
      obtain ⟨e', hpk', hnext⟩ := HInv.next (by omega) hI (by omega) hSo (by first | assumption | (unfold cfgOk; decide)) (by assumption) (by assumption) hok0
      refine K.g (K.q [.pointer (some ⟨p_14, 0, none⟩)] ?_)
      refine K.l (K.OW.gcall hS [2] [0, 1, 3, 4, 5, 6, 7, 8] [.pointer (some ⟨p_14, 0, none⟩), .int .i64 (-1)] (pkS_ok _ _ _ _ _ _ _ x_55 ((-1) : Int) (by first | omega | assumption | exact aft_int (by assumption) _ | exact ann_int (by assumption) _ (by first | omega | assumption)) e' (hpk')) ?_)
      clear hS; rintro _ _ w ⟨rfl, rfl⟩ hS
      replace hS : K.Sat w0 [l_53, g_52, gl_18, row_39, hA_40, hB_42, m_20, g_2, fr] w := hS
      refine K.q [.tuple #[.int .u64 e', .bool true], .int .u64 e', .bool true, .int .u64 e', .bool true] (K.z (K.t (K.s (K.g (K.q [.pointer (some ⟨b_13, 0, none⟩), .pointer (some ⟨p_14, 0, none⟩), .int .i64 ((tk : Nat) : Int)] ?_)))))
      refine K.l (K.OW.gcall hS [2, 0] [1, 3, 4, 5, 6, 7, 8] [.pointer (some ⟨b_13, 0, none⟩), .pointer (some ⟨p_14, 0, none⟩), .int .i64 ((tk : Nat) : Int)] (epIn_ok _ _ _ _ _ _ c (by first | assumption | (unfold cfgOk; decide)) ((stepE c ((lns c).toNat) h0.x M).2) _ _ hl_21 x_55 (by assumption) ((tk : Nat) : Int) (by omega)) ?_)
      clear hS; rintro _ _ w ⟨rfl, (⟨y_58, rfl, h_59, hz_60⟩ | ⟨rfl, h_61⟩ | ⟨rfl, h_62⟩)⟩ hS
      ·
       replace hS : K.Sat w0 [gl_18, l_53, g_52, row_39, hA_40, hB_42, m_20, g_2, fr] w := hS
       have hw_63 : isW y_58 := peek_W (by assumption) h_59
       unfold isW at hw_63
       have hin' : (true = true ↔ annW (lns c).toNat (stepE c ((lns c).toNat) h0.x M).2 tk ≠ 0) := by unfold annW; rw [← ann_at (c := c) (by omega), h_59]; simp; omega
       refine K.q [.tuple #[.int .u64 (y_58 - 1), .bool true], .int .u64 (y_58 - 1), .bool true, .int .u64 (y_58 - 1), .bool true] (K.z (K.t (K.s (K.s (K.g (K.q [.bool true, .bool true, .pointer (some ⟨r_26, 0 + tk * 5, none⟩), .pointer (some ⟨r_26, 0 + tk * 5, none⟩), .pointer (some ⟨r_26, 0 + tk * 5 + 3, none⟩)] ?_))))))
       refine K.d (.bool h0.inn) (K.row_at0 (j := 3) (hS.ownr 3 rfl how_49) hcs_44 hall_45 rfl htl_46 rfl) ?_
       cases hb_64 : h0.inn
       ·
        refine K.q [.bool true, .bool true] (K.z (K.t (K.h (K.g (K.q [.pointer (some ⟨r_26, 0 + tk * 5, none⟩), .int .u64 e', .pointer (some ⟨r_26, 0 + tk * 5, none⟩), .pointer (some ⟨r_26, 0 + tk * 5 + 4, none⟩)] ?_)))))
        refine K.l (K.OW.grst 3 (0 + tk * 5 + 4) [.int .u64 e'] ((cs_43.set tk [.pointer u, .pointer v, .pointer w1, .bool h0.inn, .int .u64 e']).flatten) hS how_49 ?_ (by show _ + 1 ≤ _; omega) (K.set_at0 (j := 4) hcs_44 hall_45 rfl htl_46 (Nat.le_of_ble_eq_true rfl) rfl))
        clear hS; intro w l_65 o_66 hS
        replace hS : K.Sat w0 [gl_18, l_53, g_52, l_65, hA_40, hB_42, m_20, g_2, fr] w := hS
        refine K.z (K.t (K.s (K.g (K.q [.pointer (some ⟨r_26, 0 + tk * 5, none⟩), .bool true, .pointer (some ⟨r_26, 0 + tk * 5, none⟩), .pointer (some ⟨r_26, 0 + tk * 5 + 3, none⟩)] ?_))))
        refine K.l (K.OW.grst 3 (0 + tk * 5 + 3) [.bool true] ((cs_43.set tk [.pointer u, .pointer v, .pointer w1, .bool true, .int .u64 e']).flatten) hS o_66 ?_ (by show _ + 1 ≤ _; omega) (K.set_at0 (j := 3) hcs_44 hall_45 rfl htl_46 (Nat.le_of_ble_eq_true rfl) rfl))
        clear hS; intro w l_67 o_68 hS
        replace hS : K.Sat w0 [gl_18, l_53, g_52, l_67, hA_40, hB_42, m_20, g_2, fr] w := hS
        refine K.z (K.t (K.s ?_))
        have hd_69 : K.Hands (handEl b_13) 58 5 (l_67 ++ (hA_40 ++ ([g_52].flatten ++ hB_42))) ((some ⟨r_26, 0, none⟩)) (hs.set tk (⟨(stepE c ((lns c).toNat) h0.x M).1, true, e'⟩ : HandE)) := hcl_50 _ _ _ [.pointer u, .pointer v, .pointer w1, .bool true, .int .u64 e'] rfl ⟨_, _, _, rfl, by simpa using h_54⟩ o_68
        replace hS : K.Sat w0 [(l_67 ++ (hA_40 ++ ([g_52].flatten ++ hB_42))), gl_18, l_53, m_20, g_2, fr] w := (hS.pick [3, 4, 2, 5, 0, 1, 6, 7, 8]).of (by simp [K.pick, K.nth])
        generalize (l_67 ++ (hA_40 ++ ([g_52].flatten ++ hB_42))) = ld_70 at hS hd_69
        have hI_71 : HInv c (lns c).toNat (hs.set tk (⟨(stepE c ((lns c).toNat) h0.x M).1, true, e'⟩ : HandE)) (stepE c ((lns c).toNat) h0.x M).2 e' (j + 1) := by have h := hnext true hin'; rwa [if_pos ⟨rfl, hb_64⟩] at h
        have hlen2 := hI_71.len
        have heb2 := hI_71.eb
        refine K.g (K.q [.int .i64 0] (K.z (K.t ?_)))
        refine K.KW.block ?_
        refine K.KW.loop (fun m_ F_ w_ => ∃ (k : Nat) (hd2 : K.Cs), m_ = c.th.toNat - k ∧ K.Sl F_ [(0, .agg #[.int .i64 c.th, .int .i64 c.sl, .int .i64 c.lo, .int .i64 c.bu]), (1, .slice (some ⟨b_37, of_38, none⟩) xs.length cap), (2, .pointer (some ⟨r_1, 0, none⟩)), (5, .pointer (some ⟨b_13, 0, none⟩)), (6, .pointer (some ⟨p_14, 0, none⟩)), (8, .bool true), (9, .slice (some ⟨r_26, 0, none⟩) c.th.toNat c.th.toNat), (10, .int .i64 ((j : Nat) : Int)), (14, .int .u64 e'), (18, .int .i64 ((k : Nat) : Int)), (148, undef)] ∧ k ≤ c.th.toNat ∧ K.Hands (handEl b_13) 58 5 hd2 ((some ⟨r_26, 0, none⟩)) (hs.set tk (⟨(stepE c ((lns c).toNat) h0.x M).1, true, e'⟩ : HandE)) ∧ K.Sat w0 [hd2, gl_18, l_53, m_20, g_2, fr] w_) ((fun (k : Nat) => c.th.toNat - k) 0) ?_ ?_
        ·
         exact ⟨0, ld_70, rfl, ⟨by rfl, by rfl, by rfl, by rfl, by rfl, by rfl, by rfl, by rfl, by rfl, by rfl, by rfl, trivial⟩, (by omega), hd_69, hS.pick [0, 1, 2, 3, 4, 5]⟩
        ·
         clear hS
         intro m_72 F_73 w hI
         obtain ⟨k, hd2, rfl, sl_74, p_75, x_76, hS⟩ := hI
         rw [← K.Sl.puts sl_74]; clear sl_74
         refine K.s (K.s (K.g (K.q [.int .i64 ((k : Nat) : Int), .slice (some ⟨r_26, 0, none⟩) c.th.toNat c.th.toNat] ?_)))
         refine K.a (K.QR.len (P := Try.prog) rfl rfl Try.underlying51) ?_
         by_cases h_77 : (((k : Nat) : Int) : Int) < (((c.th.toNat : Nat) : Int) : Int)
         ·
          refine K.y ((((k : Nat) : Int) : Int) < (((c.th.toNat : Nat) : Int) : Int)) h_77 ?_
          refine K.z (K.t (K.h (K.k (K.t (K.s ?_)))))
          refine K.KW.block ?_
          refine K.s ?_
          obtain ⟨h1, hk1⟩ := hs_at (hs := (hs.set tk (⟨(stepE c ((lns c).toNat) h0.x M).1, true, e'⟩ : HandE))) (t := k) (by omega)
          have hat1 := hI_71.at_ k _ hk1
          obtain ⟨row_78, hA_79, hg_80, hB_81, cs_82, rfl, hcs_83, hall_84, htl_85, hct_86, hel_87, how_88, hcl_89⟩ := x_76.open_ k h1 hk1
          replace hS : K.Sat w0 [row_78, hA_79, hg_80, hB_81, gl_18, l_53, m_20, g_2, fr] w := hS.of
          obtain ⟨u2, v2, w2, hce2, hmx2⟩ := hel_87
          rw [hce2] at how_88
          replace hS : K.Sat w0 [row_78, hA_79, hg_80, hB_81, gl_18, l_53, m_20, g_2, fr] w := hS.of (by simp [K.pick, K.nth])
          refine K.g (K.q [.slice (some ⟨r_26, 0, none⟩) c.th.toNat c.th.toNat, .int .i64 ((k : Nat) : Int)] ?_)
          refine K.a (K.QR.ix (0 + k * 5) 5 rfl rfl rfl Try.underlying51 (by kernel_rfl) (by omega) (by first | (simp; done) | omega | (simp; omega))) ?_
          refine K.q [.pointer (some ⟨r_26, 0 + k * 5 + 3, none⟩)] ?_
          refine K.d (.bool h1.inn) (K.row_at0 (j := 3) (hS.ownr 0 rfl how_88) hcs_83 hall_84 rfl htl_85 rfl) ?_
          cases hb_90 : h1.inn
          ·
           refine K.q [.bool false] ?_
           refine K.RW.skip rfl (by kernel_rfl) ?_
           refine K.RW.skip rfl (by kernel_rfl) ?_
           refine K.RW.skip rfl (by kernel_rfl) ?_
           refine K.RW.skip rfl (by kernel_rfl) ?_
           refine K.RW.skip rfl (by kernel_rfl) ?_
           refine K.RW.skip rfl (by kernel_rfl) ?_
           refine K.RW.skip rfl (by kernel_rfl) ?_
           refine K.RW.skip rfl (by kernel_rfl) ?_
           refine K.q [.bool false] (K.z (K.t (K.f (K.k ?_))))
           refine K.blk_normal ?_
           refine K.t ?_
           have hd_91 : K.Hands (handEl b_13) 58 5 (row_78 ++ (hA_79 ++ ([hg_80].flatten ++ hB_81))) ((some ⟨r_26, 0, none⟩)) ((hs.set tk (⟨(stepE c ((lns c).toNat) h0.x M).1, true, e'⟩ : HandE)).set k h1) := hcl_89 _ _ _ [.pointer u2, .pointer v2, .pointer w2, .bool h1.inn, .int .u64 h1.at_] rfl ⟨_, _, _, rfl, by simpa using hmx2⟩ how_88
           replace hS : K.Sat w0 [(row_78 ++ (hA_79 ++ ([hg_80].flatten ++ hB_81))), gl_18, l_53, m_20, g_2, fr] w := (hS.pick [0, 1, 2, 3, 4, 5, 6, 7, 8]).of (by simp [K.pick, K.nth])
           generalize (row_78 ++ (hA_79 ++ ([hg_80].flatten ++ hB_81))) = ld_92 at hS hd_91
           rw [K.hs_self hk1] at hd_91
           refine K.g (K.q [.int .i64 ((k : Nat) : Int)] ?_)
           refine K.a (K.QR.n64 ((((k : Nat) : Int) : Int) + (1 : Int)) ((k + 1 : Nat) : Int) (by kernel_rfl) (by omega)) ?_
           refine K.q [.int .i64 ((k + 1 : Nat) : Int)] (K.z (K.t ?_))
           refine ⟨_, ?_, k + 1, ld_92, rfl, ⟨by rfl, by rfl, by rfl, by rfl, by rfl, by rfl, by rfl, by rfl, by rfl, by rfl, by rfl, trivial⟩, (by omega), hd_91, hS.pick [0, 1, 2, 3, 4, 5]⟩
           omega
          ·
           refine K.q [.bool true, .int .u64 e', .slice (some ⟨r_26, 0, none⟩) c.th.toNat c.th.toNat, .int .i64 ((k : Nat) : Int)] ?_
           refine K.a (K.QR.ix (0 + k * 5) 5 rfl rfl rfl Try.underlying51 (by kernel_rfl) (by omega) (by first | (simp; done) | omega | (simp; omega))) ?_
           refine K.q [.pointer (some ⟨r_26, 0 + k * 5 + 4, none⟩)] ?_
           refine K.d (.int .u64 h1.at_) (K.row_at0 (j := 4) (hS.ownr 0 rfl how_88) hcs_83 hall_84 rfl htl_85 rfl) ?_
           refine K.a (K.QR.nu64 ((h1.at_ : Int) + (1 : Int)) ((h1.at_ : Int) + (1 : Int)) (by kernel_rfl) (by have h := hat1 hb_90; omega)) ?_
           refine K.x ((e' : Int) > ((h1.at_ : Int) + (1 : Int) : Int)) (by have h := hat1 hb_90; omega) ?_
           refine K.q [.bool false] (K.z (K.t (K.f (K.k ?_))))
           refine K.blk_normal ?_
           refine K.t ?_
           have hd_93 : K.Hands (handEl b_13) 58 5 (row_78 ++ (hA_79 ++ ([hg_80].flatten ++ hB_81))) ((some ⟨r_26, 0, none⟩)) ((hs.set tk (⟨(stepE c ((lns c).toNat) h0.x M).1, true, e'⟩ : HandE)).set k h1) := hcl_89 _ _ _ [.pointer u2, .pointer v2, .pointer w2, .bool h1.inn, .int .u64 h1.at_] rfl ⟨_, _, _, rfl, by simpa using hmx2⟩ how_88
           replace hS : K.Sat w0 [(row_78 ++ (hA_79 ++ ([hg_80].flatten ++ hB_81))), gl_18, l_53, m_20, g_2, fr] w := (hS.pick [0, 1, 2, 3, 4, 5, 6, 7, 8]).of (by simp [K.pick, K.nth])
           generalize (row_78 ++ (hA_79 ++ ([hg_80].flatten ++ hB_81))) = ld_94 at hS hd_93
           rw [K.hs_self hk1] at hd_93
           refine K.g (K.q [.int .i64 ((k : Nat) : Int)] ?_)
           refine K.a (K.QR.n64 ((((k : Nat) : Int) : Int) + (1 : Int)) ((k + 1 : Nat) : Int) (by kernel_rfl) (by omega)) ?_
           refine K.q [.int .i64 ((k + 1 : Nat) : Int)] (K.z (K.t ?_))
           refine ⟨_, ?_, k + 1, ld_94, rfl, ⟨by rfl, by rfl, by rfl, by rfl, by rfl, by rfl, by rfl, by rfl, by rfl, by rfl, by rfl, trivial⟩, (by omega), hd_93, hS.pick [0, 1, 2, 3, 4, 5]⟩
           omega
         ·
          refine K.x ((((k : Nat) : Int) : Int) < (((c.th.toNat : Nat) : Int) : Int)) h_77 ?_
          refine K.z (K.t (K.f ?_))
          refine K.KW.exit ?_
          refine K.thn_exit ?_
          refine K.thn_exit ?_
          refine K.blk_hit ?_
          refine K.blk_normal ?_
          refine K.t (K.g (K.q [.int .i64 ((j : Nat) : Int)] ?_))
          refine K.a (K.QR.n64 ((((j : Nat) : Int) : Int) + (1 : Int)) ((j + 1 : Nat) : Int) (by kernel_rfl) (by omega)) ?_
          refine K.q [.int .i64 ((j + 1 : Nat) : Int)] (K.z (K.t ?_))
          refine ⟨_, ?_, j + 1, (hs.set tk (⟨(stepE c ((lns c).toNat) h0.x M).1, true, e'⟩ : HandE)), ((stepE c ((lns c).toNat) h0.x M).2), e', hd2, l_53, rfl, ⟨by rfl, by rfl, by rfl, by rfl, by rfl, by rfl, by rfl, by rfl, by rfl, trivial⟩, (by omega), (hI_71), x_76, x_55, hS.pick [0, 1, 2, 3, 4, 5]⟩
          omega
       ·
        refine K.q [.bool false, .bool false] (K.z (K.t (K.f (K.k (K.t (K.s (K.g (K.q [.pointer (some ⟨r_26, 0 + tk * 5, none⟩), .bool true, .pointer (some ⟨r_26, 0 + tk * 5, none⟩), .pointer (some ⟨r_26, 0 + tk * 5 + 3, none⟩)] ?_))))))))
        refine K.l (K.OW.grst 3 (0 + tk * 5 + 3) [.bool true] ((cs_43.set tk [.pointer u, .pointer v, .pointer w1, .bool true, .int .u64 h0.at_]).flatten) hS how_49 ?_ (by show _ + 1 ≤ _; omega) (K.set_at0 (j := 3) hcs_44 hall_45 rfl htl_46 (Nat.le_of_ble_eq_true rfl) rfl))
        clear hS; intro w l_95 o_96 hS
        replace hS : K.Sat w0 [gl_18, l_53, g_52, l_95, hA_40, hB_42, m_20, g_2, fr] w := hS
        refine K.z (K.t (K.s ?_))
        have hd_97 : K.Hands (handEl b_13) 58 5 (l_95 ++ (hA_40 ++ ([g_52].flatten ++ hB_42))) ((some ⟨r_26, 0, none⟩)) (hs.set tk (⟨(stepE c ((lns c).toNat) h0.x M).1, true, h0.at_⟩ : HandE)) := hcl_50 _ _ _ [.pointer u, .pointer v, .pointer w1, .bool true, .int .u64 h0.at_] rfl ⟨_, _, _, rfl, by simpa using h_54⟩ o_96
        replace hS : K.Sat w0 [(l_95 ++ (hA_40 ++ ([g_52].flatten ++ hB_42))), gl_18, l_53, m_20, g_2, fr] w := (hS.pick [3, 4, 2, 5, 0, 1, 6, 7, 8]).of (by simp [K.pick, K.nth])
        generalize (l_95 ++ (hA_40 ++ ([g_52].flatten ++ hB_42))) = ld_98 at hS hd_97
        have hI_99 : HInv c (lns c).toNat (hs.set tk (⟨(stepE c ((lns c).toNat) h0.x M).1, true, h0.at_⟩ : HandE)) (stepE c ((lns c).toNat) h0.x M).2 e' (j + 1) := by have h := hnext true hin'; rwa [if_neg (fun h => by rw [hb_64] at h; cases h.2)] at h
        have hlen2 := hI_99.len
        have heb2 := hI_99.eb
        refine K.g (K.q [.int .i64 0] (K.z (K.t ?_)))
        refine K.KW.block ?_
        refine K.KW.loop (fun m_ F_ w_ => ∃ (k : Nat) (hd2 : K.Cs), m_ = c.th.toNat - k ∧ K.Sl F_ [(0, .agg #[.int .i64 c.th, .int .i64 c.sl, .int .i64 c.lo, .int .i64 c.bu]), (1, .slice (some ⟨b_37, of_38, none⟩) xs.length cap), (2, .pointer (some ⟨r_1, 0, none⟩)), (5, .pointer (some ⟨b_13, 0, none⟩)), (6, .pointer (some ⟨p_14, 0, none⟩)), (8, .bool true), (9, .slice (some ⟨r_26, 0, none⟩) c.th.toNat c.th.toNat), (10, .int .i64 ((j : Nat) : Int)), (14, .int .u64 e'), (18, .int .i64 ((k : Nat) : Int)), (148, undef)] ∧ k ≤ c.th.toNat ∧ K.Hands (handEl b_13) 58 5 hd2 ((some ⟨r_26, 0, none⟩)) (hs.set tk (⟨(stepE c ((lns c).toNat) h0.x M).1, true, h0.at_⟩ : HandE)) ∧ K.Sat w0 [hd2, gl_18, l_53, m_20, g_2, fr] w_) ((fun (k : Nat) => c.th.toNat - k) 0) ?_ ?_
        ·
         exact ⟨0, ld_98, rfl, ⟨by rfl, by rfl, by rfl, by rfl, by rfl, by rfl, by rfl, by rfl, by rfl, by rfl, by rfl, trivial⟩, (by omega), hd_97, hS.pick [0, 1, 2, 3, 4, 5]⟩
        ·
         clear hS
         intro m_100 F_101 w hI
         obtain ⟨k, hd2, rfl, sl_102, p_103, x_104, hS⟩ := hI
         rw [← K.Sl.puts sl_102]; clear sl_102
         refine K.s (K.s (K.g (K.q [.int .i64 ((k : Nat) : Int), .slice (some ⟨r_26, 0, none⟩) c.th.toNat c.th.toNat] ?_)))
         refine K.a (K.QR.len (P := Try.prog) rfl rfl Try.underlying51) ?_
         by_cases h_105 : (((k : Nat) : Int) : Int) < (((c.th.toNat : Nat) : Int) : Int)
         ·
          refine K.y ((((k : Nat) : Int) : Int) < (((c.th.toNat : Nat) : Int) : Int)) h_105 ?_
          refine K.z (K.t (K.h (K.k (K.t (K.s ?_)))))
          refine K.KW.block ?_
          refine K.s ?_
          obtain ⟨h1, hk1⟩ := hs_at (hs := (hs.set tk (⟨(stepE c ((lns c).toNat) h0.x M).1, true, h0.at_⟩ : HandE))) (t := k) (by omega)
          have hat1 := hI_99.at_ k _ hk1
          obtain ⟨row_106, hA_107, hg_108, hB_109, cs_110, rfl, hcs_111, hall_112, htl_113, hct_114, hel_115, how_116, hcl_117⟩ := x_104.open_ k h1 hk1
          replace hS : K.Sat w0 [row_106, hA_107, hg_108, hB_109, gl_18, l_53, m_20, g_2, fr] w := hS.of
          obtain ⟨u2, v2, w2, hce2, hmx2⟩ := hel_115
          rw [hce2] at how_116
          replace hS : K.Sat w0 [row_106, hA_107, hg_108, hB_109, gl_18, l_53, m_20, g_2, fr] w := hS.of (by simp [K.pick, K.nth])
          refine K.g (K.q [.slice (some ⟨r_26, 0, none⟩) c.th.toNat c.th.toNat, .int .i64 ((k : Nat) : Int)] ?_)
          refine K.a (K.QR.ix (0 + k * 5) 5 rfl rfl rfl Try.underlying51 (by kernel_rfl) (by omega) (by first | (simp; done) | omega | (simp; omega))) ?_
          refine K.q [.pointer (some ⟨r_26, 0 + k * 5 + 3, none⟩)] ?_
          refine K.d (.bool h1.inn) (K.row_at0 (j := 3) (hS.ownr 0 rfl how_116) hcs_111 hall_112 rfl htl_113 rfl) ?_
          cases hb_118 : h1.inn
          ·
           refine K.q [.bool false] ?_
           refine K.RW.skip rfl (by kernel_rfl) ?_
           refine K.RW.skip rfl (by kernel_rfl) ?_
           refine K.RW.skip rfl (by kernel_rfl) ?_
           refine K.RW.skip rfl (by kernel_rfl) ?_
           refine K.RW.skip rfl (by kernel_rfl) ?_
           refine K.RW.skip rfl (by kernel_rfl) ?_
           refine K.RW.skip rfl (by kernel_rfl) ?_
           refine K.RW.skip rfl (by kernel_rfl) ?_
           refine K.q [.bool false] (K.z (K.t (K.f (K.k ?_))))
           refine K.blk_normal ?_
           refine K.t ?_
           have hd_119 : K.Hands (handEl b_13) 58 5 (row_106 ++ (hA_107 ++ ([hg_108].flatten ++ hB_109))) ((some ⟨r_26, 0, none⟩)) ((hs.set tk (⟨(stepE c ((lns c).toNat) h0.x M).1, true, h0.at_⟩ : HandE)).set k h1) := hcl_117 _ _ _ [.pointer u2, .pointer v2, .pointer w2, .bool h1.inn, .int .u64 h1.at_] rfl ⟨_, _, _, rfl, by simpa using hmx2⟩ how_116
           replace hS : K.Sat w0 [(row_106 ++ (hA_107 ++ ([hg_108].flatten ++ hB_109))), gl_18, l_53, m_20, g_2, fr] w := (hS.pick [0, 1, 2, 3, 4, 5, 6, 7, 8]).of (by simp [K.pick, K.nth])
           generalize (row_106 ++ (hA_107 ++ ([hg_108].flatten ++ hB_109))) = ld_120 at hS hd_119
           rw [K.hs_self hk1] at hd_119
           refine K.g (K.q [.int .i64 ((k : Nat) : Int)] ?_)
           refine K.a (K.QR.n64 ((((k : Nat) : Int) : Int) + (1 : Int)) ((k + 1 : Nat) : Int) (by kernel_rfl) (by omega)) ?_
           refine K.q [.int .i64 ((k + 1 : Nat) : Int)] (K.z (K.t ?_))
           refine ⟨_, ?_, k + 1, ld_120, rfl, ⟨by rfl, by rfl, by rfl, by rfl, by rfl, by rfl, by rfl, by rfl, by rfl, by rfl, by rfl, trivial⟩, (by omega), hd_119, hS.pick [0, 1, 2, 3, 4, 5]⟩
           omega
          ·
           refine K.q [.bool true, .int .u64 e', .slice (some ⟨r_26, 0, none⟩) c.th.toNat c.th.toNat, .int .i64 ((k : Nat) : Int)] ?_
           refine K.a (K.QR.ix (0 + k * 5) 5 rfl rfl rfl Try.underlying51 (by kernel_rfl) (by omega) (by first | (simp; done) | omega | (simp; omega))) ?_
           refine K.q [.pointer (some ⟨r_26, 0 + k * 5 + 4, none⟩)] ?_
           refine K.d (.int .u64 h1.at_) (K.row_at0 (j := 4) (hS.ownr 0 rfl how_116) hcs_111 hall_112 rfl htl_113 rfl) ?_
           refine K.a (K.QR.nu64 ((h1.at_ : Int) + (1 : Int)) ((h1.at_ : Int) + (1 : Int)) (by kernel_rfl) (by have h := hat1 hb_118; omega)) ?_
           refine K.x ((e' : Int) > ((h1.at_ : Int) + (1 : Int) : Int)) (by have h := hat1 hb_118; omega) ?_
           refine K.q [.bool false] (K.z (K.t (K.f (K.k ?_))))
           refine K.blk_normal ?_
           refine K.t ?_
           have hd_121 : K.Hands (handEl b_13) 58 5 (row_106 ++ (hA_107 ++ ([hg_108].flatten ++ hB_109))) ((some ⟨r_26, 0, none⟩)) ((hs.set tk (⟨(stepE c ((lns c).toNat) h0.x M).1, true, h0.at_⟩ : HandE)).set k h1) := hcl_117 _ _ _ [.pointer u2, .pointer v2, .pointer w2, .bool h1.inn, .int .u64 h1.at_] rfl ⟨_, _, _, rfl, by simpa using hmx2⟩ how_116
           replace hS : K.Sat w0 [(row_106 ++ (hA_107 ++ ([hg_108].flatten ++ hB_109))), gl_18, l_53, m_20, g_2, fr] w := (hS.pick [0, 1, 2, 3, 4, 5, 6, 7, 8]).of (by simp [K.pick, K.nth])
           generalize (row_106 ++ (hA_107 ++ ([hg_108].flatten ++ hB_109))) = ld_122 at hS hd_121
           rw [K.hs_self hk1] at hd_121
           refine K.g (K.q [.int .i64 ((k : Nat) : Int)] ?_)
           refine K.a (K.QR.n64 ((((k : Nat) : Int) : Int) + (1 : Int)) ((k + 1 : Nat) : Int) (by kernel_rfl) (by omega)) ?_
           refine K.q [.int .i64 ((k + 1 : Nat) : Int)] (K.z (K.t ?_))
           refine ⟨_, ?_, k + 1, ld_122, rfl, ⟨by rfl, by rfl, by rfl, by rfl, by rfl, by rfl, by rfl, by rfl, by rfl, by rfl, by rfl, trivial⟩, (by omega), hd_121, hS.pick [0, 1, 2, 3, 4, 5]⟩
           omega
         ·
          refine K.x ((((k : Nat) : Int) : Int) < (((c.th.toNat : Nat) : Int) : Int)) h_105 ?_
          refine K.z (K.t (K.f ?_))
          refine K.KW.exit ?_
          refine K.thn_exit ?_
          refine K.thn_exit ?_
          refine K.blk_hit ?_
          refine K.blk_normal ?_
          refine K.t (K.g (K.q [.int .i64 ((j : Nat) : Int)] ?_))
          refine K.a (K.QR.n64 ((((j : Nat) : Int) : Int) + (1 : Int)) ((j + 1 : Nat) : Int) (by kernel_rfl) (by omega)) ?_
          refine K.q [.int .i64 ((j + 1 : Nat) : Int)] (K.z (K.t ?_))
          refine ⟨_, ?_, j + 1, (hs.set tk (⟨(stepE c ((lns c).toNat) h0.x M).1, true, h0.at_⟩ : HandE)), ((stepE c ((lns c).toNat) h0.x M).2), e', hd2, l_53, rfl, ⟨by rfl, by rfl, by rfl, by rfl, by rfl, by rfl, by rfl, by rfl, by rfl, trivial⟩, (by omega), (hI_99), x_104, x_55, hS.pick [0, 1, 2, 3, 4, 5]⟩
          omega
      ·
       replace hS : K.Sat w0 [gl_18, l_53, g_52, row_39, hA_40, hB_42, m_20, g_2, fr] w := hS
       have hin' : (false = true ↔ annW (lns c).toNat (stepE c ((lns c).toNat) h0.x M).2 tk ≠ 0) := by unfold annW; rw [← ann_at (c := c) (by omega), h_61]; simp
       refine K.q [.tuple #[.int .u64 0, .bool false], .int .u64 0, .bool false, .int .u64 0, .bool false] (K.z (K.t (K.s (K.s (K.g (K.q [.bool false, .bool false] ?_))))))
       refine K.RW.skip rfl (by kernel_rfl) ?_
       refine K.RW.skip rfl (by kernel_rfl) ?_
       refine K.RW.skip rfl (by kernel_rfl) ?_
       refine K.RW.skip rfl (by kernel_rfl) ?_
       refine K.RW.skip rfl (by kernel_rfl) ?_
       refine K.q [.bool false] (K.z (K.t (K.f (K.k (K.t (K.s (K.g (K.q [.pointer (some ⟨r_26, 0 + tk * 5, none⟩), .bool false, .pointer (some ⟨r_26, 0 + tk * 5, none⟩), .pointer (some ⟨r_26, 0 + tk * 5 + 3, none⟩)] ?_))))))))
       refine K.l (K.OW.grst 3 (0 + tk * 5 + 3) [.bool false] ((cs_43.set tk [.pointer u, .pointer v, .pointer w1, .bool false, .int .u64 h0.at_]).flatten) hS how_49 ?_ (by show _ + 1 ≤ _; omega) (K.set_at0 (j := 3) hcs_44 hall_45 rfl htl_46 (Nat.le_of_ble_eq_true rfl) rfl))
       clear hS; intro w l_123 o_124 hS
       replace hS : K.Sat w0 [gl_18, l_53, g_52, l_123, hA_40, hB_42, m_20, g_2, fr] w := hS
       refine K.z (K.t (K.s ?_))
       have hd_125 : K.Hands (handEl b_13) 58 5 (l_123 ++ (hA_40 ++ ([g_52].flatten ++ hB_42))) ((some ⟨r_26, 0, none⟩)) (hs.set tk (⟨(stepE c ((lns c).toNat) h0.x M).1, false, h0.at_⟩ : HandE)) := hcl_50 _ _ _ [.pointer u, .pointer v, .pointer w1, .bool false, .int .u64 h0.at_] rfl ⟨_, _, _, rfl, by simpa using h_54⟩ o_124
       replace hS : K.Sat w0 [(l_123 ++ (hA_40 ++ ([g_52].flatten ++ hB_42))), gl_18, l_53, m_20, g_2, fr] w := (hS.pick [3, 4, 2, 5, 0, 1, 6, 7, 8]).of (by simp [K.pick, K.nth])
       generalize (l_123 ++ (hA_40 ++ ([g_52].flatten ++ hB_42))) = ld_126 at hS hd_125
       have hI_127 : HInv c (lns c).toNat (hs.set tk (⟨(stepE c ((lns c).toNat) h0.x M).1, false, h0.at_⟩ : HandE)) (stepE c ((lns c).toNat) h0.x M).2 e' (j + 1) := by have h := hnext false hin'; rwa [if_neg (fun h => by cases h.1)] at h
       have hlen2 := hI_127.len
       have heb2 := hI_127.eb
       refine K.g (K.q [.int .i64 0] (K.z (K.t ?_)))
       refine K.KW.block ?_
       refine K.KW.loop (fun m_ F_ w_ => ∃ (k : Nat) (hd2 : K.Cs), m_ = c.th.toNat - k ∧ K.Sl F_ [(0, .agg #[.int .i64 c.th, .int .i64 c.sl, .int .i64 c.lo, .int .i64 c.bu]), (1, .slice (some ⟨b_37, of_38, none⟩) xs.length cap), (2, .pointer (some ⟨r_1, 0, none⟩)), (5, .pointer (some ⟨b_13, 0, none⟩)), (6, .pointer (some ⟨p_14, 0, none⟩)), (8, .bool true), (9, .slice (some ⟨r_26, 0, none⟩) c.th.toNat c.th.toNat), (10, .int .i64 ((j : Nat) : Int)), (14, .int .u64 e'), (18, .int .i64 ((k : Nat) : Int)), (148, undef)] ∧ k ≤ c.th.toNat ∧ K.Hands (handEl b_13) 58 5 hd2 ((some ⟨r_26, 0, none⟩)) (hs.set tk (⟨(stepE c ((lns c).toNat) h0.x M).1, false, h0.at_⟩ : HandE)) ∧ K.Sat w0 [hd2, gl_18, l_53, m_20, g_2, fr] w_) ((fun (k : Nat) => c.th.toNat - k) 0) ?_ ?_
       ·
        exact ⟨0, ld_126, rfl, ⟨by rfl, by rfl, by rfl, by rfl, by rfl, by rfl, by rfl, by rfl, by rfl, by rfl, by rfl, trivial⟩, (by omega), hd_125, hS.pick [0, 1, 2, 3, 4, 5]⟩
       ·
        clear hS
        intro m_128 F_129 w hI
        obtain ⟨k, hd2, rfl, sl_130, p_131, x_132, hS⟩ := hI
        rw [← K.Sl.puts sl_130]; clear sl_130
        refine K.s (K.s (K.g (K.q [.int .i64 ((k : Nat) : Int), .slice (some ⟨r_26, 0, none⟩) c.th.toNat c.th.toNat] ?_)))
        refine K.a (K.QR.len (P := Try.prog) rfl rfl Try.underlying51) ?_
        by_cases h_133 : (((k : Nat) : Int) : Int) < (((c.th.toNat : Nat) : Int) : Int)
        ·
         refine K.y ((((k : Nat) : Int) : Int) < (((c.th.toNat : Nat) : Int) : Int)) h_133 ?_
         refine K.z (K.t (K.h (K.k (K.t (K.s ?_)))))
         refine K.KW.block ?_
         refine K.s ?_
         obtain ⟨h1, hk1⟩ := hs_at (hs := (hs.set tk (⟨(stepE c ((lns c).toNat) h0.x M).1, false, h0.at_⟩ : HandE))) (t := k) (by omega)
         have hat1 := hI_127.at_ k _ hk1
         obtain ⟨row_134, hA_135, hg_136, hB_137, cs_138, rfl, hcs_139, hall_140, htl_141, hct_142, hel_143, how_144, hcl_145⟩ := x_132.open_ k h1 hk1
         replace hS : K.Sat w0 [row_134, hA_135, hg_136, hB_137, gl_18, l_53, m_20, g_2, fr] w := hS.of
         obtain ⟨u2, v2, w2, hce2, hmx2⟩ := hel_143
         rw [hce2] at how_144
         replace hS : K.Sat w0 [row_134, hA_135, hg_136, hB_137, gl_18, l_53, m_20, g_2, fr] w := hS.of (by simp [K.pick, K.nth])
         refine K.g (K.q [.slice (some ⟨r_26, 0, none⟩) c.th.toNat c.th.toNat, .int .i64 ((k : Nat) : Int)] ?_)
         refine K.a (K.QR.ix (0 + k * 5) 5 rfl rfl rfl Try.underlying51 (by kernel_rfl) (by omega) (by first | (simp; done) | omega | (simp; omega))) ?_
         refine K.q [.pointer (some ⟨r_26, 0 + k * 5 + 3, none⟩)] ?_
         refine K.d (.bool h1.inn) (K.row_at0 (j := 3) (hS.ownr 0 rfl how_144) hcs_139 hall_140 rfl htl_141 rfl) ?_
         cases hb_146 : h1.inn
         ·
          refine K.q [.bool false] ?_
          refine K.RW.skip rfl (by kernel_rfl) ?_
          refine K.RW.skip rfl (by kernel_rfl) ?_
          refine K.RW.skip rfl (by kernel_rfl) ?_
          refine K.RW.skip rfl (by kernel_rfl) ?_
          refine K.RW.skip rfl (by kernel_rfl) ?_
          refine K.RW.skip rfl (by kernel_rfl) ?_
          refine K.RW.skip rfl (by kernel_rfl) ?_
          refine K.RW.skip rfl (by kernel_rfl) ?_
          refine K.q [.bool false] (K.z (K.t (K.f (K.k ?_))))
          refine K.blk_normal ?_
          refine K.t ?_
          have hd_147 : K.Hands (handEl b_13) 58 5 (row_134 ++ (hA_135 ++ ([hg_136].flatten ++ hB_137))) ((some ⟨r_26, 0, none⟩)) ((hs.set tk (⟨(stepE c ((lns c).toNat) h0.x M).1, false, h0.at_⟩ : HandE)).set k h1) := hcl_145 _ _ _ [.pointer u2, .pointer v2, .pointer w2, .bool h1.inn, .int .u64 h1.at_] rfl ⟨_, _, _, rfl, by simpa using hmx2⟩ how_144
          replace hS : K.Sat w0 [(row_134 ++ (hA_135 ++ ([hg_136].flatten ++ hB_137))), gl_18, l_53, m_20, g_2, fr] w := (hS.pick [0, 1, 2, 3, 4, 5, 6, 7, 8]).of (by simp [K.pick, K.nth])
          generalize (row_134 ++ (hA_135 ++ ([hg_136].flatten ++ hB_137))) = ld_148 at hS hd_147
          rw [K.hs_self hk1] at hd_147
          refine K.g (K.q [.int .i64 ((k : Nat) : Int)] ?_)
          refine K.a (K.QR.n64 ((((k : Nat) : Int) : Int) + (1 : Int)) ((k + 1 : Nat) : Int) (by kernel_rfl) (by omega)) ?_
          refine K.q [.int .i64 ((k + 1 : Nat) : Int)] (K.z (K.t ?_))
          refine ⟨_, ?_, k + 1, ld_148, rfl, ⟨by rfl, by rfl, by rfl, by rfl, by rfl, by rfl, by rfl, by rfl, by rfl, by rfl, by rfl, trivial⟩, (by omega), hd_147, hS.pick [0, 1, 2, 3, 4, 5]⟩
          omega
         ·
          refine K.q [.bool true, .int .u64 e', .slice (some ⟨r_26, 0, none⟩) c.th.toNat c.th.toNat, .int .i64 ((k : Nat) : Int)] ?_
          refine K.a (K.QR.ix (0 + k * 5) 5 rfl rfl rfl Try.underlying51 (by kernel_rfl) (by omega) (by first | (simp; done) | omega | (simp; omega))) ?_
          refine K.q [.pointer (some ⟨r_26, 0 + k * 5 + 4, none⟩)] ?_
          refine K.d (.int .u64 h1.at_) (K.row_at0 (j := 4) (hS.ownr 0 rfl how_144) hcs_139 hall_140 rfl htl_141 rfl) ?_
          refine K.a (K.QR.nu64 ((h1.at_ : Int) + (1 : Int)) ((h1.at_ : Int) + (1 : Int)) (by kernel_rfl) (by have h := hat1 hb_146; omega)) ?_
          refine K.x ((e' : Int) > ((h1.at_ : Int) + (1 : Int) : Int)) (by have h := hat1 hb_146; omega) ?_
          refine K.q [.bool false] (K.z (K.t (K.f (K.k ?_))))
          refine K.blk_normal ?_
          refine K.t ?_
          have hd_149 : K.Hands (handEl b_13) 58 5 (row_134 ++ (hA_135 ++ ([hg_136].flatten ++ hB_137))) ((some ⟨r_26, 0, none⟩)) ((hs.set tk (⟨(stepE c ((lns c).toNat) h0.x M).1, false, h0.at_⟩ : HandE)).set k h1) := hcl_145 _ _ _ [.pointer u2, .pointer v2, .pointer w2, .bool h1.inn, .int .u64 h1.at_] rfl ⟨_, _, _, rfl, by simpa using hmx2⟩ how_144
          replace hS : K.Sat w0 [(row_134 ++ (hA_135 ++ ([hg_136].flatten ++ hB_137))), gl_18, l_53, m_20, g_2, fr] w := (hS.pick [0, 1, 2, 3, 4, 5, 6, 7, 8]).of (by simp [K.pick, K.nth])
          generalize (row_134 ++ (hA_135 ++ ([hg_136].flatten ++ hB_137))) = ld_150 at hS hd_149
          rw [K.hs_self hk1] at hd_149
          refine K.g (K.q [.int .i64 ((k : Nat) : Int)] ?_)
          refine K.a (K.QR.n64 ((((k : Nat) : Int) : Int) + (1 : Int)) ((k + 1 : Nat) : Int) (by kernel_rfl) (by omega)) ?_
          refine K.q [.int .i64 ((k + 1 : Nat) : Int)] (K.z (K.t ?_))
          refine ⟨_, ?_, k + 1, ld_150, rfl, ⟨by rfl, by rfl, by rfl, by rfl, by rfl, by rfl, by rfl, by rfl, by rfl, by rfl, by rfl, trivial⟩, (by omega), hd_149, hS.pick [0, 1, 2, 3, 4, 5]⟩
          omega
        ·
         refine K.x ((((k : Nat) : Int) : Int) < (((c.th.toNat : Nat) : Int) : Int)) h_133 ?_
         refine K.z (K.t (K.f ?_))
         refine K.KW.exit ?_
         refine K.thn_exit ?_
         refine K.thn_exit ?_
         refine K.blk_hit ?_
         refine K.blk_normal ?_
         refine K.t (K.g (K.q [.int .i64 ((j : Nat) : Int)] ?_))
         refine K.a (K.QR.n64 ((((j : Nat) : Int) : Int) + (1 : Int)) ((j + 1 : Nat) : Int) (by kernel_rfl) (by omega)) ?_
         refine K.q [.int .i64 ((j + 1 : Nat) : Int)] (K.z (K.t ?_))
         refine ⟨_, ?_, j + 1, (hs.set tk (⟨(stepE c ((lns c).toNat) h0.x M).1, false, h0.at_⟩ : HandE)), ((stepE c ((lns c).toNat) h0.x M).2), e', hd2, l_53, rfl, ⟨by rfl, by rfl, by rfl, by rfl, by rfl, by rfl, by rfl, by rfl, by rfl, trivial⟩, (by omega), (hI_127), x_132, x_55, hS.pick [0, 1, 2, 3, 4, 5]⟩
         omega
      ·
       replace hS : K.Sat w0 [gl_18, l_53, g_52, row_39, hA_40, hB_42, m_20, g_2, fr] w := hS
       have hin' : (false = true ↔ annW (lns c).toNat (stepE c ((lns c).toNat) h0.x M).2 tk ≠ 0) := by unfold annW; rw [← ann_at (c := c) (by omega), h_62]; simp
       refine K.q [.tuple #[.int .u64 0, .bool false], .int .u64 0, .bool false, .int .u64 0, .bool false] (K.z (K.t (K.s (K.s (K.g (K.q [.bool false, .bool false] ?_))))))
       refine K.RW.skip rfl (by kernel_rfl) ?_
       refine K.RW.skip rfl (by kernel_rfl) ?_
       refine K.RW.skip rfl (by kernel_rfl) ?_
       refine K.RW.skip rfl (by kernel_rfl) ?_
       refine K.RW.skip rfl (by kernel_rfl) ?_
       refine K.q [.bool false] (K.z (K.t (K.f (K.k (K.t (K.s (K.g (K.q [.pointer (some ⟨r_26, 0 + tk * 5, none⟩), .bool false, .pointer (some ⟨r_26, 0 + tk * 5, none⟩), .pointer (some ⟨r_26, 0 + tk * 5 + 3, none⟩)] ?_))))))))
       refine K.l (K.OW.grst 3 (0 + tk * 5 + 3) [.bool false] ((cs_43.set tk [.pointer u, .pointer v, .pointer w1, .bool false, .int .u64 h0.at_]).flatten) hS how_49 ?_ (by show _ + 1 ≤ _; omega) (K.set_at0 (j := 3) hcs_44 hall_45 rfl htl_46 (Nat.le_of_ble_eq_true rfl) rfl))
       clear hS; intro w l_151 o_152 hS
       replace hS : K.Sat w0 [gl_18, l_53, g_52, l_151, hA_40, hB_42, m_20, g_2, fr] w := hS
       refine K.z (K.t (K.s ?_))
       have hd_153 : K.Hands (handEl b_13) 58 5 (l_151 ++ (hA_40 ++ ([g_52].flatten ++ hB_42))) ((some ⟨r_26, 0, none⟩)) (hs.set tk (⟨(stepE c ((lns c).toNat) h0.x M).1, false, h0.at_⟩ : HandE)) := hcl_50 _ _ _ [.pointer u, .pointer v, .pointer w1, .bool false, .int .u64 h0.at_] rfl ⟨_, _, _, rfl, by simpa using h_54⟩ o_152
       replace hS : K.Sat w0 [(l_151 ++ (hA_40 ++ ([g_52].flatten ++ hB_42))), gl_18, l_53, m_20, g_2, fr] w := (hS.pick [3, 4, 2, 5, 0, 1, 6, 7, 8]).of (by simp [K.pick, K.nth])
       generalize (l_151 ++ (hA_40 ++ ([g_52].flatten ++ hB_42))) = ld_154 at hS hd_153
       have hI_155 : HInv c (lns c).toNat (hs.set tk (⟨(stepE c ((lns c).toNat) h0.x M).1, false, h0.at_⟩ : HandE)) (stepE c ((lns c).toNat) h0.x M).2 e' (j + 1) := by have h := hnext false hin'; rwa [if_neg (fun h => by cases h.1)] at h
       have hlen2 := hI_155.len
       have heb2 := hI_155.eb
       refine K.g (K.q [.int .i64 0] (K.z (K.t ?_)))
       refine K.KW.block ?_
       refine K.KW.loop (fun m_ F_ w_ => ∃ (k : Nat) (hd2 : K.Cs), m_ = c.th.toNat - k ∧ K.Sl F_ [(0, .agg #[.int .i64 c.th, .int .i64 c.sl, .int .i64 c.lo, .int .i64 c.bu]), (1, .slice (some ⟨b_37, of_38, none⟩) xs.length cap), (2, .pointer (some ⟨r_1, 0, none⟩)), (5, .pointer (some ⟨b_13, 0, none⟩)), (6, .pointer (some ⟨p_14, 0, none⟩)), (8, .bool true), (9, .slice (some ⟨r_26, 0, none⟩) c.th.toNat c.th.toNat), (10, .int .i64 ((j : Nat) : Int)), (14, .int .u64 e'), (18, .int .i64 ((k : Nat) : Int)), (148, undef)] ∧ k ≤ c.th.toNat ∧ K.Hands (handEl b_13) 58 5 hd2 ((some ⟨r_26, 0, none⟩)) (hs.set tk (⟨(stepE c ((lns c).toNat) h0.x M).1, false, h0.at_⟩ : HandE)) ∧ K.Sat w0 [hd2, gl_18, l_53, m_20, g_2, fr] w_) ((fun (k : Nat) => c.th.toNat - k) 0) ?_ ?_
       ·
        exact ⟨0, ld_154, rfl, ⟨by rfl, by rfl, by rfl, by rfl, by rfl, by rfl, by rfl, by rfl, by rfl, by rfl, by rfl, trivial⟩, (by omega), hd_153, hS.pick [0, 1, 2, 3, 4, 5]⟩
       ·
        clear hS
        intro m_156 F_157 w hI
        obtain ⟨k, hd2, rfl, sl_158, p_159, x_160, hS⟩ := hI
        rw [← K.Sl.puts sl_158]; clear sl_158
        refine K.s (K.s (K.g (K.q [.int .i64 ((k : Nat) : Int), .slice (some ⟨r_26, 0, none⟩) c.th.toNat c.th.toNat] ?_)))
        refine K.a (K.QR.len (P := Try.prog) rfl rfl Try.underlying51) ?_
        by_cases h_161 : (((k : Nat) : Int) : Int) < (((c.th.toNat : Nat) : Int) : Int)
        ·
         refine K.y ((((k : Nat) : Int) : Int) < (((c.th.toNat : Nat) : Int) : Int)) h_161 ?_
         refine K.z (K.t (K.h (K.k (K.t (K.s ?_)))))
         refine K.KW.block ?_
         refine K.s ?_
         obtain ⟨h1, hk1⟩ := hs_at (hs := (hs.set tk (⟨(stepE c ((lns c).toNat) h0.x M).1, false, h0.at_⟩ : HandE))) (t := k) (by omega)
         have hat1 := hI_155.at_ k _ hk1
         obtain ⟨row_162, hA_163, hg_164, hB_165, cs_166, rfl, hcs_167, hall_168, htl_169, hct_170, hel_171, how_172, hcl_173⟩ := x_160.open_ k h1 hk1
         replace hS : K.Sat w0 [row_162, hA_163, hg_164, hB_165, gl_18, l_53, m_20, g_2, fr] w := hS.of
         obtain ⟨u2, v2, w2, hce2, hmx2⟩ := hel_171
         rw [hce2] at how_172
         replace hS : K.Sat w0 [row_162, hA_163, hg_164, hB_165, gl_18, l_53, m_20, g_2, fr] w := hS.of (by simp [K.pick, K.nth])
         refine K.g (K.q [.slice (some ⟨r_26, 0, none⟩) c.th.toNat c.th.toNat, .int .i64 ((k : Nat) : Int)] ?_)
         refine K.a (K.QR.ix (0 + k * 5) 5 rfl rfl rfl Try.underlying51 (by kernel_rfl) (by omega) (by first | (simp; done) | omega | (simp; omega))) ?_
         refine K.q [.pointer (some ⟨r_26, 0 + k * 5 + 3, none⟩)] ?_
         refine K.d (.bool h1.inn) (K.row_at0 (j := 3) (hS.ownr 0 rfl how_172) hcs_167 hall_168 rfl htl_169 rfl) ?_
         cases hb_174 : h1.inn
         ·
          refine K.q [.bool false] ?_
          refine K.RW.skip rfl (by kernel_rfl) ?_
          refine K.RW.skip rfl (by kernel_rfl) ?_
          refine K.RW.skip rfl (by kernel_rfl) ?_
          refine K.RW.skip rfl (by kernel_rfl) ?_
          refine K.RW.skip rfl (by kernel_rfl) ?_
          refine K.RW.skip rfl (by kernel_rfl) ?_
          refine K.RW.skip rfl (by kernel_rfl) ?_
          refine K.RW.skip rfl (by kernel_rfl) ?_
          refine K.q [.bool false] (K.z (K.t (K.f (K.k ?_))))
          refine K.blk_normal ?_
          refine K.t ?_
          have hd_175 : K.Hands (handEl b_13) 58 5 (row_162 ++ (hA_163 ++ ([hg_164].flatten ++ hB_165))) ((some ⟨r_26, 0, none⟩)) ((hs.set tk (⟨(stepE c ((lns c).toNat) h0.x M).1, false, h0.at_⟩ : HandE)).set k h1) := hcl_173 _ _ _ [.pointer u2, .pointer v2, .pointer w2, .bool h1.inn, .int .u64 h1.at_] rfl ⟨_, _, _, rfl, by simpa using hmx2⟩ how_172
          replace hS : K.Sat w0 [(row_162 ++ (hA_163 ++ ([hg_164].flatten ++ hB_165))), gl_18, l_53, m_20, g_2, fr] w := (hS.pick [0, 1, 2, 3, 4, 5, 6, 7, 8]).of (by simp [K.pick, K.nth])
          generalize (row_162 ++ (hA_163 ++ ([hg_164].flatten ++ hB_165))) = ld_176 at hS hd_175
          rw [K.hs_self hk1] at hd_175
          refine K.g (K.q [.int .i64 ((k : Nat) : Int)] ?_)
          refine K.a (K.QR.n64 ((((k : Nat) : Int) : Int) + (1 : Int)) ((k + 1 : Nat) : Int) (by kernel_rfl) (by omega)) ?_
          refine K.q [.int .i64 ((k + 1 : Nat) : Int)] (K.z (K.t ?_))
          refine ⟨_, ?_, k + 1, ld_176, rfl, ⟨by rfl, by rfl, by rfl, by rfl, by rfl, by rfl, by rfl, by rfl, by rfl, by rfl, by rfl, trivial⟩, (by omega), hd_175, hS.pick [0, 1, 2, 3, 4, 5]⟩
          omega
         ·
          refine K.q [.bool true, .int .u64 e', .slice (some ⟨r_26, 0, none⟩) c.th.toNat c.th.toNat, .int .i64 ((k : Nat) : Int)] ?_
          refine K.a (K.QR.ix (0 + k * 5) 5 rfl rfl rfl Try.underlying51 (by kernel_rfl) (by omega) (by first | (simp; done) | omega | (simp; omega))) ?_
          refine K.q [.pointer (some ⟨r_26, 0 + k * 5 + 4, none⟩)] ?_
          refine K.d (.int .u64 h1.at_) (K.row_at0 (j := 4) (hS.ownr 0 rfl how_172) hcs_167 hall_168 rfl htl_169 rfl) ?_
          refine K.a (K.QR.nu64 ((h1.at_ : Int) + (1 : Int)) ((h1.at_ : Int) + (1 : Int)) (by kernel_rfl) (by have h := hat1 hb_174; omega)) ?_
          refine K.x ((e' : Int) > ((h1.at_ : Int) + (1 : Int) : Int)) (by have h := hat1 hb_174; omega) ?_
          refine K.q [.bool false] (K.z (K.t (K.f (K.k ?_))))
          refine K.blk_normal ?_
          refine K.t ?_
          have hd_177 : K.Hands (handEl b_13) 58 5 (row_162 ++ (hA_163 ++ ([hg_164].flatten ++ hB_165))) ((some ⟨r_26, 0, none⟩)) ((hs.set tk (⟨(stepE c ((lns c).toNat) h0.x M).1, false, h0.at_⟩ : HandE)).set k h1) := hcl_173 _ _ _ [.pointer u2, .pointer v2, .pointer w2, .bool h1.inn, .int .u64 h1.at_] rfl ⟨_, _, _, rfl, by simpa using hmx2⟩ how_172
          replace hS : K.Sat w0 [(row_162 ++ (hA_163 ++ ([hg_164].flatten ++ hB_165))), gl_18, l_53, m_20, g_2, fr] w := (hS.pick [0, 1, 2, 3, 4, 5, 6, 7, 8]).of (by simp [K.pick, K.nth])
          generalize (row_162 ++ (hA_163 ++ ([hg_164].flatten ++ hB_165))) = ld_178 at hS hd_177
          rw [K.hs_self hk1] at hd_177
          refine K.g (K.q [.int .i64 ((k : Nat) : Int)] ?_)
          refine K.a (K.QR.n64 ((((k : Nat) : Int) : Int) + (1 : Int)) ((k + 1 : Nat) : Int) (by kernel_rfl) (by omega)) ?_
          refine K.q [.int .i64 ((k + 1 : Nat) : Int)] (K.z (K.t ?_))
          refine ⟨_, ?_, k + 1, ld_178, rfl, ⟨by rfl, by rfl, by rfl, by rfl, by rfl, by rfl, by rfl, by rfl, by rfl, by rfl, by rfl, trivial⟩, (by omega), hd_177, hS.pick [0, 1, 2, 3, 4, 5]⟩
          omega
        ·
         refine K.x ((((k : Nat) : Int) : Int) < (((c.th.toNat : Nat) : Int) : Int)) h_161 ?_
         refine K.z (K.t (K.f ?_))
         refine K.KW.exit ?_
         refine K.thn_exit ?_
         refine K.thn_exit ?_
         refine K.blk_hit ?_
         refine K.blk_normal ?_
         refine K.t (K.g (K.q [.int .i64 ((j : Nat) : Int)] ?_))
         refine K.a (K.QR.n64 ((((j : Nat) : Int) : Int) + (1 : Int)) ((j + 1 : Nat) : Int) (by kernel_rfl) (by omega)) ?_
         refine K.q [.int .i64 ((j + 1 : Nat) : Int)] (K.z (K.t ?_))
         refine ⟨_, ?_, j + 1, (hs.set tk (⟨(stepE c ((lns c).toNat) h0.x M).1, false, h0.at_⟩ : HandE)), ((stepE c ((lns c).toNat) h0.x M).2), e', hd2, l_53, rfl, ⟨by rfl, by rfl, by rfl, by rfl, by rfl, by rfl, by rfl, by rfl, by rfl, trivial⟩, (by omega), (hI_155), x_160, x_55, hS.pick [0, 1, 2, 3, 4, 5]⟩
         omega
     ·
      refine K.z (K.t (K.h (K.s (K.g (K.q [.int .i64 2] (K.z (K.t (K.s (K.s (K.g (K.q [.slice (some ⟨b_37, of_38, none⟩) xs.length cap, .int .i64 ((j : Nat) : Int)] ?_)))))))))))
      refine K.a (K.QR.ix (of_38 + j * 1) 1 rfl rfl rfl Try.underlying25 (by kernel_rfl) (by omega) (by first | (simp; done) | omega | (simp; omega))) ?_
      refine K.d (.int .u8 (xs.getD j 0)) ((hx.no hS.chg).ld j (by omega) 0 _ rfl) ?_
      by_cases h_179 : (xs.getD j 0 : Int) ≥ (128 : Int)
      ·
       refine K.y ((xs.getD j 0 : Int) ≥ (128 : Int)) h_179 ?_
       refine K.q [.bool true, .pointer (some ⟨r_26, 0 + tk * 5, none⟩), .pointer (some ⟨r_26, 0 + tk * 5, none⟩), .pointer (some ⟨r_26, 0 + tk * 5 + 3, none⟩)] ?_
       refine K.d (.bool h0.inn) (K.row_at0 (j := 3) (hS.ownr 1 rfl how_49) hcs_44 hall_45 rfl htl_46 rfl) ?_
       cases hb_180 : h0.inn
       ·
        refine K.q [.bool false] (K.z (K.t (K.f (K.s (K.g (K.q [.slice (some ⟨b_37, of_38, none⟩) xs.length cap, .int .i64 ((j : Nat) : Int)] ?_))))))
        refine K.a (K.QR.ix (of_38 + j * 1) 1 rfl rfl rfl Try.underlying25 (by kernel_rfl) (by omega) (by first | (simp; done) | omega | (simp; omega))) ?_
        refine K.d (.int .u8 (xs.getD j 0)) ((hx.no hS.chg).ld j (by omega) 0 _ rfl) ?_
        refine K.y ((xs.getD j 0 : Int) ≥ (128 : Int)) h_179 ?_
        refine K.z (K.t (K.h (K.g (K.q [.int .i64 0] (K.z (K.t (K.g (K.q [.pointer (some ⟨r_26, 0 + tk * 5, none⟩), .pointer (some ⟨b_13, 0, none⟩)] ?_))))))))
        refine K.a (K.QR.ldN [.int .i64 c.th, .int .i64 c.sl, .int .i64 c.lo, .int .i64 c.bu] rfl rfl (by kernel_rfl) (by kernel_rfl) (K.cells (K.cl ((hS.blk 7 rfl hg_3).cell rfl) (K.cl ((hS.blk 7 rfl hg_3).cell rfl) (K.cl ((hS.blk 7 rfl hg_3).cell rfl) (K.cl ((hS.blk 7 rfl hg_3).cell rfl) K.cl0)))))) ?_
        refine K.q [.int .i64 0, .int .i64 ((tk : Nat) : Int)] ?_
        refine K.l (K.OW.gcall hS [] [0, 1, 2, 3, 4, 5, 6, 7, 8] [.pointer (some ⟨b_13, 0, none⟩), .agg #[.int .i64 c.th, .int .i64 c.sl, .int .i64 c.lo, .int .i64 c.bu], .int .i64 0, .int .i64 ((tk : Nat) : Int)] (made_en _ _ c ((tk : Nat) : Int) (by omega)) ?_)
        clear hS; rintro _ _ w ⟨u_181, v_182, w_183, r_184, g_185, g2_186, rfl, rfl, h_187⟩ hS
        replace hS : K.Sat w0 [g_185, g2_186, hg_41, row_39, hA_40, hB_42, gl_18, l1, m_20, g_2, fr] w := hS
        have hx_188 : (newE 0 ((tk : Nat) : Int)).good := newE_good (by omega)
        have hnd_189 := newE_done 0 ((tk : Nat) : Int)
        have hok1 := MOk_new hs e tk h0.inn 0 (fun _ => hb_180)
        refine K.q [.tuple #[.agg #[.pointer u_181, .pointer v_182, .pointer w_183], .pointer (some ⟨r_184, 0, none⟩)], .agg #[.pointer u_181, .pointer v_182, .pointer w_183], .pointer (some ⟨r_184, 0, none⟩), .pointer (some ⟨r_26, 0 + tk * 5, none⟩), .pointer (some ⟨r_26, 0 + tk * 5, none⟩)] ?_
        refine K.l (K.OW.grst 3 (0 + tk * 5 + 0) [.pointer u_181, .pointer v_182, .pointer w_183] ((cs_43.set tk [.pointer u_181, .pointer v_182, .pointer w_183, .bool h0.inn, .int .u64 h0.at_]).flatten) hS how_49 ?_ (by show _ + 3 ≤ _; omega) (K.set_at0 (j := 0) hcs_44 hall_45 rfl htl_46 (Nat.le_of_ble_eq_true rfl) rfl))
        clear hS; intro w l_190 o_191 hS
        replace hS : K.Sat w0 [g_185, g2_186, hg_41, l_190, hA_40, hB_42, gl_18, l1, m_20, g_2, fr] w := hS
        refine K.z (K.t (K.s (K.g (K.q [.pointer (some ⟨r_26, 0 + tk * 5, none⟩), .pointer (some ⟨r_26, 0 + tk * 5, none⟩), .pointer (some ⟨r_26, 0 + tk * 5, none⟩)] ?_))))
        refine K.a (K.QR.ldN [.pointer u_181, .pointer v_182, .pointer w_183] rfl rfl (by kernel_rfl) (by kernel_rfl) (K.cells (K.cl (K.row_at0 (j := 0) (hS.ownr 3 rfl o_191) hcs_44 hall_45 rfl htl_46 rfl) (K.cl (K.row_at0 (j := 1) (hS.ownr 3 rfl o_191) hcs_44 hall_45 rfl htl_46 rfl) (K.cl (K.row_at0 (j := 2) (hS.ownr 3 rfl o_191) hcs_44 hall_45 rfl htl_46 rfl) K.cl0))))) ?_
        refine K.q [.pointer (some ⟨p_14, 0, none⟩)] ?_
        refine K.l (K.OW.gcall hS [0, 6, 7] [1, 2, 3, 4, 5, 8, 9, 10] [.agg #[.pointer u_181, .pointer v_182, .pointer w_183], .pointer (some ⟨p_14, 0, none⟩)] (machStep_ok _ _ _ _ _ _ c (by first | assumption | (unfold cfgOk; decide)) (newE 0 ((tk : Nat) : Int)) M _ _ _ _ _ _ h_187 hl_21 x_35 (by assumption) (by assumption) (by assumption)) ?_)
        clear hS; rintro _ _ w ⟨g_192, l_193, rfl, rfl, h_194, x_195⟩ hS
        replace hS : K.Sat w0 [g_192, gl_18, l_193, g2_186, hg_41, l_190, hA_40, hB_42, m_20, g_2, fr] w := hS
        obtain ⟨hx_196, hM_197⟩ := (stepE_good (by first | assumption | (unfold cfgOk; decide)) (by assumption) (by assumption) : (stepE c ((lns c).toNat) (newE 0 ((tk : Nat) : Int)) M).1.good ∧ (stepE c ((lns c).toNat) (newE 0 ((tk : Nat) : Int)) M).2.good)
        refine K.z (K.t (K.s ?_))
        obtain ⟨e', hpk', hnext⟩ := HInv.next (by omega) hI (by omega) hSo (by first | assumption | (unfold cfgOk; decide)) (by assumption) (by assumption) hok1
        refine K.g (K.q [.pointer (some ⟨p_14, 0, none⟩)] ?_)
        refine K.l (K.OW.gcall hS [2] [0, 1, 3, 4, 5, 6, 7, 8, 9, 10] [.pointer (some ⟨p_14, 0, none⟩), .int .i64 (-1)] (pkS_ok _ _ _ _ _ _ _ x_195 ((-1) : Int) (by first | omega | assumption | exact aft_int (by assumption) _ | exact ann_int (by assumption) _ (by first | omega | assumption)) e' (hpk')) ?_)
        clear hS; rintro _ _ w ⟨rfl, rfl⟩ hS
        replace hS : K.Sat w0 [l_193, g_192, gl_18, g2_186, hg_41, l_190, hA_40, hB_42, m_20, g_2, fr] w := hS
        refine K.q [.tuple #[.int .u64 e', .bool true], .int .u64 e', .bool true, .int .u64 e', .bool true] (K.z (K.t (K.s (K.g (K.q [.pointer (some ⟨b_13, 0, none⟩), .pointer (some ⟨p_14, 0, none⟩), .int .i64 ((tk : Nat) : Int)] ?_)))))
        refine K.l (K.OW.gcall hS [2, 0] [1, 3, 4, 5, 6, 7, 8, 9, 10] [.pointer (some ⟨b_13, 0, none⟩), .pointer (some ⟨p_14, 0, none⟩), .int .i64 ((tk : Nat) : Int)] (epIn_ok _ _ _ _ _ _ c (by first | assumption | (unfold cfgOk; decide)) ((stepE c ((lns c).toNat) (newE 0 ((tk : Nat) : Int)) M).2) _ _ hl_21 x_195 (by assumption) ((tk : Nat) : Int) (by omega)) ?_)
        clear hS; rintro _ _ w ⟨rfl, (⟨y_198, rfl, h_199, hz_200⟩ | ⟨rfl, h_201⟩ | ⟨rfl, h_202⟩)⟩ hS
        ·
         replace hS : K.Sat w0 [gl_18, l_193, g_192, g2_186, hg_41, l_190, hA_40, hB_42, m_20, g_2, fr] w := hS
         have hw_203 : isW y_198 := peek_W (by assumption) h_199
         unfold isW at hw_203
         have hin' : (true = true ↔ annW (lns c).toNat (stepE c ((lns c).toNat) (newE 0 ((tk : Nat) : Int)) M).2 tk ≠ 0) := by unfold annW; rw [← ann_at (c := c) (by omega), h_199]; simp; omega
         refine K.q [.tuple #[.int .u64 (y_198 - 1), .bool true], .int .u64 (y_198 - 1), .bool true, .int .u64 (y_198 - 1), .bool true] (K.z (K.t (K.s (K.s (K.g (K.q [.bool true, .bool true, .pointer (some ⟨r_26, 0 + tk * 5, none⟩), .pointer (some ⟨r_26, 0 + tk * 5, none⟩), .pointer (some ⟨r_26, 0 + tk * 5 + 3, none⟩)] ?_))))))
         refine K.d (.bool h0.inn) (K.row_at0 (j := 3) (hS.ownr 5 rfl o_191) hcs_44 hall_45 rfl htl_46 rfl) ?_
         cases hb_204 : h0.inn
         ·
          refine K.q [.bool true, .bool true] (K.z (K.t (K.h (K.g (K.q [.pointer (some ⟨r_26, 0 + tk * 5, none⟩), .int .u64 e', .pointer (some ⟨r_26, 0 + tk * 5, none⟩), .pointer (some ⟨r_26, 0 + tk * 5 + 4, none⟩)] ?_)))))
          refine K.l (K.OW.grst 5 (0 + tk * 5 + 4) [.int .u64 e'] ((cs_43.set tk [.pointer u_181, .pointer v_182, .pointer w_183, .bool h0.inn, .int .u64 e']).flatten) hS o_191 ?_ (by show _ + 1 ≤ _; omega) (K.set_at0 (j := 4) hcs_44 hall_45 rfl htl_46 (Nat.le_of_ble_eq_true rfl) rfl))
          clear hS; intro w l_205 o_206 hS
          replace hS : K.Sat w0 [gl_18, l_193, g_192, g2_186, hg_41, l_205, hA_40, hB_42, m_20, g_2, fr] w := hS
          refine K.z (K.t (K.s (K.g (K.q [.pointer (some ⟨r_26, 0 + tk * 5, none⟩), .bool true, .pointer (some ⟨r_26, 0 + tk * 5, none⟩), .pointer (some ⟨r_26, 0 + tk * 5 + 3, none⟩)] ?_))))
          refine K.l (K.OW.grst 5 (0 + tk * 5 + 3) [.bool true] ((cs_43.set tk [.pointer u_181, .pointer v_182, .pointer w_183, .bool true, .int .u64 e']).flatten) hS o_206 ?_ (by show _ + 1 ≤ _; omega) (K.set_at0 (j := 3) hcs_44 hall_45 rfl htl_46 (Nat.le_of_ble_eq_true rfl) rfl))
          clear hS; intro w l_207 o_208 hS
          replace hS : K.Sat w0 [gl_18, l_193, g_192, g2_186, hg_41, l_207, hA_40, hB_42, m_20, g_2, fr] w := hS
          refine K.z (K.t (K.s ?_))
          have hd_209 : K.Hands (handEl b_13) 58 5 (l_207 ++ (hA_40 ++ ([g_192].flatten ++ hB_42))) ((some ⟨r_26, 0, none⟩)) (hs.set tk (⟨(stepE c ((lns c).toNat) (newE 0 ((tk : Nat) : Int)) M).1, true, e'⟩ : HandE)) := hcl_50 _ _ _ [.pointer u_181, .pointer v_182, .pointer w_183, .bool true, .int .u64 e'] rfl ⟨_, _, _, rfl, by simpa using h_194⟩ o_208
          replace hS : K.Sat w0 [(l_207 ++ (hA_40 ++ ([g_192].flatten ++ hB_42))), gl_18, l_193, g2_186, m_20, g_2, fr] w := (hS.pick [5, 6, 2, 7, 0, 1, 3, 8, 9, 10]).of (by simp [K.pick, K.nth])
          generalize (l_207 ++ (hA_40 ++ ([g_192].flatten ++ hB_42))) = ld_210 at hS hd_209
          have hI_211 : HInv c (lns c).toNat (hs.set tk (⟨(stepE c ((lns c).toNat) (newE 0 ((tk : Nat) : Int)) M).1, true, e'⟩ : HandE)) (stepE c ((lns c).toNat) (newE 0 ((tk : Nat) : Int)) M).2 e' (j + 1) := by have h := hnext true hin'; rwa [if_pos ⟨rfl, hb_204⟩] at h
          have hlen2 := hI_211.len
          have heb2 := hI_211.eb
          refine K.g (K.q [.int .i64 0] (K.z (K.t ?_)))
          refine K.KW.block ?_
          refine K.KW.loop (fun m_ F_ w_ => ∃ (k : Nat) (hd2 : K.Cs), m_ = c.th.toNat - k ∧ K.Sl F_ [(0, .agg #[.int .i64 c.th, .int .i64 c.sl, .int .i64 c.lo, .int .i64 c.bu]), (1, .slice (some ⟨b_37, of_38, none⟩) xs.length cap), (2, .pointer (some ⟨r_1, 0, none⟩)), (5, .pointer (some ⟨b_13, 0, none⟩)), (6, .pointer (some ⟨p_14, 0, none⟩)), (8, .bool true), (9, .slice (some ⟨r_26, 0, none⟩) c.th.toNat c.th.toNat), (10, .int .i64 ((j : Nat) : Int)), (14, .int .u64 e'), (18, .int .i64 ((k : Nat) : Int)), (148, undef)] ∧ k ≤ c.th.toNat ∧ K.Hands (handEl b_13) 58 5 hd2 ((some ⟨r_26, 0, none⟩)) (hs.set tk (⟨(stepE c ((lns c).toNat) (newE 0 ((tk : Nat) : Int)) M).1, true, e'⟩ : HandE)) ∧ K.Sat w0 [hd2, gl_18, l_193, g2_186, m_20, g_2, fr] w_) ((fun (k : Nat) => c.th.toNat - k) 0) ?_ ?_
          ·
           exact ⟨0, ld_210, rfl, ⟨by rfl, by rfl, by rfl, by rfl, by rfl, by rfl, by rfl, by rfl, by rfl, by rfl, by rfl, trivial⟩, (by omega), hd_209, hS.pick [0, 1, 2, 3, 4, 5, 6]⟩
          ·
           clear hS
           intro m_212 F_213 w hI
           obtain ⟨k, hd2, rfl, sl_214, p_215, x_216, hS⟩ := hI
           rw [← K.Sl.puts sl_214]; clear sl_214
           refine K.s (K.s (K.g (K.q [.int .i64 ((k : Nat) : Int), .slice (some ⟨r_26, 0, none⟩) c.th.toNat c.th.toNat] ?_)))
           refine K.a (K.QR.len (P := Try.prog) rfl rfl Try.underlying51) ?_
           by_cases h_217 : (((k : Nat) : Int) : Int) < (((c.th.toNat : Nat) : Int) : Int)
           ·
            refine K.y ((((k : Nat) : Int) : Int) < (((c.th.toNat : Nat) : Int) : Int)) h_217 ?_
            refine K.z (K.t (K.h (K.k (K.t (K.s ?_)))))
            refine K.KW.block ?_
            refine K.s ?_
            obtain ⟨h1, hk1⟩ := hs_at (hs := (hs.set tk (⟨(stepE c ((lns c).toNat) (newE 0 ((tk : Nat) : Int)) M).1, true, e'⟩ : HandE))) (t := k) (by omega)
            have hat1 := hI_211.at_ k _ hk1
            obtain ⟨row_218, hA_219, hg_220, hB_221, cs_222, rfl, hcs_223, hall_224, htl_225, hct_226, hel_227, how_228, hcl_229⟩ := x_216.open_ k h1 hk1
            replace hS : K.Sat w0 [row_218, hA_219, hg_220, hB_221, gl_18, l_193, g2_186, m_20, g_2, fr] w := hS.of
            obtain ⟨u2, v2, w2, hce2, hmx2⟩ := hel_227
            rw [hce2] at how_228
            replace hS : K.Sat w0 [row_218, hA_219, hg_220, hB_221, gl_18, l_193, g2_186, m_20, g_2, fr] w := hS.of (by simp [K.pick, K.nth])
            refine K.g (K.q [.slice (some ⟨r_26, 0, none⟩) c.th.toNat c.th.toNat, .int .i64 ((k : Nat) : Int)] ?_)
            refine K.a (K.QR.ix (0 + k * 5) 5 rfl rfl rfl Try.underlying51 (by kernel_rfl) (by omega) (by first | (simp; done) | omega | (simp; omega))) ?_
            refine K.q [.pointer (some ⟨r_26, 0 + k * 5 + 3, none⟩)] ?_
            refine K.d (.bool h1.inn) (K.row_at0 (j := 3) (hS.ownr 0 rfl how_228) hcs_223 hall_224 rfl htl_225 rfl) ?_
            cases hb_230 : h1.inn
            ·
             refine K.q [.bool false] ?_
             refine K.RW.skip rfl (by kernel_rfl) ?_
             refine K.RW.skip rfl (by kernel_rfl) ?_
             refine K.RW.skip rfl (by kernel_rfl) ?_
             refine K.RW.skip rfl (by kernel_rfl) ?_
             refine K.RW.skip rfl (by kernel_rfl) ?_
             refine K.RW.skip rfl (by kernel_rfl) ?_
             refine K.RW.skip rfl (by kernel_rfl) ?_
             refine K.RW.skip rfl (by kernel_rfl) ?_
             refine K.q [.bool false] (K.z (K.t (K.f (K.k ?_))))
             refine K.blk_normal ?_
             refine K.t ?_
             have hd_231 : K.Hands (handEl b_13) 58 5 (row_218 ++ (hA_219 ++ ([hg_220].flatten ++ hB_221))) ((some ⟨r_26, 0, none⟩)) ((hs.set tk (⟨(stepE c ((lns c).toNat) (newE 0 ((tk : Nat) : Int)) M).1, true, e'⟩ : HandE)).set k h1) := hcl_229 _ _ _ [.pointer u2, .pointer v2, .pointer w2, .bool h1.inn, .int .u64 h1.at_] rfl ⟨_, _, _, rfl, by simpa using hmx2⟩ how_228
             replace hS : K.Sat w0 [(row_218 ++ (hA_219 ++ ([hg_220].flatten ++ hB_221))), gl_18, l_193, g2_186, m_20, g_2, fr] w := (hS.pick [0, 1, 2, 3, 4, 5, 6, 7, 8, 9]).of (by simp [K.pick, K.nth])
             generalize (row_218 ++ (hA_219 ++ ([hg_220].flatten ++ hB_221))) = ld_232 at hS hd_231
             rw [K.hs_self hk1] at hd_231
             refine K.g (K.q [.int .i64 ((k : Nat) : Int)] ?_)
             refine K.a (K.QR.n64 ((((k : Nat) : Int) : Int) + (1 : Int)) ((k + 1 : Nat) : Int) (by kernel_rfl) (by omega)) ?_
             refine K.q [.int .i64 ((k + 1 : Nat) : Int)] (K.z (K.t ?_))
             refine ⟨_, ?_, k + 1, ld_232, rfl, ⟨by rfl, by rfl, by rfl, by rfl, by rfl, by rfl, by rfl, by rfl, by rfl, by rfl, by rfl, trivial⟩, (by omega), hd_231, hS.pick [0, 1, 2, 3, 4, 5, 6]⟩
             omega
            ·
             refine K.q [.bool true, .int .u64 e', .slice (some ⟨r_26, 0, none⟩) c.th.toNat c.th.toNat, .int .i64 ((k : Nat) : Int)] ?_
             refine K.a (K.QR.ix (0 + k * 5) 5 rfl rfl rfl Try.underlying51 (by kernel_rfl) (by omega) (by first | (simp; done) | omega | (simp; omega))) ?_
             refine K.q [.pointer (some ⟨r_26, 0 + k * 5 + 4, none⟩)] ?_
             refine K.d (.int .u64 h1.at_) (K.row_at0 (j := 4) (hS.ownr 0 rfl how_228) hcs_223 hall_224 rfl htl_225 rfl) ?_
             refine K.a (K.QR.nu64 ((h1.at_ : Int) + (1 : Int)) ((h1.at_ : Int) + (1 : Int)) (by kernel_rfl) (by have h := hat1 hb_230; omega)) ?_
             refine K.x ((e' : Int) > ((h1.at_ : Int) + (1 : Int) : Int)) (by have h := hat1 hb_230; omega) ?_
             refine K.q [.bool false] (K.z (K.t (K.f (K.k ?_))))
             refine K.blk_normal ?_
             refine K.t ?_
             have hd_233 : K.Hands (handEl b_13) 58 5 (row_218 ++ (hA_219 ++ ([hg_220].flatten ++ hB_221))) ((some ⟨r_26, 0, none⟩)) ((hs.set tk (⟨(stepE c ((lns c).toNat) (newE 0 ((tk : Nat) : Int)) M).1, true, e'⟩ : HandE)).set k h1) := hcl_229 _ _ _ [.pointer u2, .pointer v2, .pointer w2, .bool h1.inn, .int .u64 h1.at_] rfl ⟨_, _, _, rfl, by simpa using hmx2⟩ how_228
             replace hS : K.Sat w0 [(row_218 ++ (hA_219 ++ ([hg_220].flatten ++ hB_221))), gl_18, l_193, g2_186, m_20, g_2, fr] w := (hS.pick [0, 1, 2, 3, 4, 5, 6, 7, 8, 9]).of (by simp [K.pick, K.nth])
             generalize (row_218 ++ (hA_219 ++ ([hg_220].flatten ++ hB_221))) = ld_234 at hS hd_233
             rw [K.hs_self hk1] at hd_233
             refine K.g (K.q [.int .i64 ((k : Nat) : Int)] ?_)
             refine K.a (K.QR.n64 ((((k : Nat) : Int) : Int) + (1 : Int)) ((k + 1 : Nat) : Int) (by kernel_rfl) (by omega)) ?_
             refine K.q [.int .i64 ((k + 1 : Nat) : Int)] (K.z (K.t ?_))
             refine ⟨_, ?_, k + 1, ld_234, rfl, ⟨by rfl, by rfl, by rfl, by rfl, by rfl, by rfl, by rfl, by rfl, by rfl, by rfl, by rfl, trivial⟩, (by omega), hd_233, hS.pick [0, 1, 2, 3, 4, 5, 6]⟩
             omega
           ·
            refine K.x ((((k : Nat) : Int) : Int) < (((c.th.toNat : Nat) : Int) : Int)) h_217 ?_
            refine K.z (K.t (K.f ?_))
            refine K.KW.exit ?_
            refine K.thn_exit ?_
            refine K.thn_exit ?_
            refine K.blk_hit ?_
            refine K.blk_normal ?_
            refine K.t (K.g (K.q [.int .i64 ((j : Nat) : Int)] ?_))
            refine K.a (K.QR.n64 ((((j : Nat) : Int) : Int) + (1 : Int)) ((j + 1 : Nat) : Int) (by kernel_rfl) (by omega)) ?_
            refine K.q [.int .i64 ((j + 1 : Nat) : Int)] (K.z (K.t ?_))
            refine ⟨_, ?_, j + 1, (hs.set tk (⟨(stepE c ((lns c).toNat) (newE 0 ((tk : Nat) : Int)) M).1, true, e'⟩ : HandE)), ((stepE c ((lns c).toNat) (newE 0 ((tk : Nat) : Int)) M).2), e', hd2, l_193, rfl, ⟨by rfl, by rfl, by rfl, by rfl, by rfl, by rfl, by rfl, by rfl, by rfl, trivial⟩, (by omega), (hI_211), x_216, x_195, hS.pick [0, 1, 2, 4, 5, 6]⟩
            omega
         ·
          refine K.q [.bool false, .bool false] (K.z (K.t (K.f (K.k (K.t (K.s (K.g (K.q [.pointer (some ⟨r_26, 0 + tk * 5, none⟩), .bool true, .pointer (some ⟨r_26, 0 + tk * 5, none⟩), .pointer (some ⟨r_26, 0 + tk * 5 + 3, none⟩)] ?_))))))))
          refine K.l (K.OW.grst 5 (0 + tk * 5 + 3) [.bool true] ((cs_43.set tk [.pointer u_181, .pointer v_182, .pointer w_183, .bool true, .int .u64 h0.at_]).flatten) hS o_191 ?_ (by show _ + 1 ≤ _; omega) (K.set_at0 (j := 3) hcs_44 hall_45 rfl htl_46 (Nat.le_of_ble_eq_true rfl) rfl))
          clear hS; intro w l_235 o_236 hS
          replace hS : K.Sat w0 [gl_18, l_193, g_192, g2_186, hg_41, l_235, hA_40, hB_42, m_20, g_2, fr] w := hS
          refine K.z (K.t (K.s ?_))
          have hd_237 : K.Hands (handEl b_13) 58 5 (l_235 ++ (hA_40 ++ ([g_192].flatten ++ hB_42))) ((some ⟨r_26, 0, none⟩)) (hs.set tk (⟨(stepE c ((lns c).toNat) (newE 0 ((tk : Nat) : Int)) M).1, true, h0.at_⟩ : HandE)) := hcl_50 _ _ _ [.pointer u_181, .pointer v_182, .pointer w_183, .bool true, .int .u64 h0.at_] rfl ⟨_, _, _, rfl, by simpa using h_194⟩ o_236
          replace hS : K.Sat w0 [(l_235 ++ (hA_40 ++ ([g_192].flatten ++ hB_42))), gl_18, l_193, g2_186, m_20, g_2, fr] w := (hS.pick [5, 6, 2, 7, 0, 1, 3, 8, 9, 10]).of (by simp [K.pick, K.nth])
          generalize (l_235 ++ (hA_40 ++ ([g_192].flatten ++ hB_42))) = ld_238 at hS hd_237
          have hI_239 : HInv c (lns c).toNat (hs.set tk (⟨(stepE c ((lns c).toNat) (newE 0 ((tk : Nat) : Int)) M).1, true, h0.at_⟩ : HandE)) (stepE c ((lns c).toNat) (newE 0 ((tk : Nat) : Int)) M).2 e' (j + 1) := by have h := hnext true hin'; rwa [if_neg (fun h => by rw [hb_204] at h; cases h.2)] at h
          have hlen2 := hI_239.len
          have heb2 := hI_239.eb
          refine K.g (K.q [.int .i64 0] (K.z (K.t ?_)))
          refine K.KW.block ?_
          refine K.KW.loop (fun m_ F_ w_ => ∃ (k : Nat) (hd2 : K.Cs), m_ = c.th.toNat - k ∧ K.Sl F_ [(0, .agg #[.int .i64 c.th, .int .i64 c.sl, .int .i64 c.lo, .int .i64 c.bu]), (1, .slice (some ⟨b_37, of_38, none⟩) xs.length cap), (2, .pointer (some ⟨r_1, 0, none⟩)), (5, .pointer (some ⟨b_13, 0, none⟩)), (6, .pointer (some ⟨p_14, 0, none⟩)), (8, .bool true), (9, .slice (some ⟨r_26, 0, none⟩) c.th.toNat c.th.toNat), (10, .int .i64 ((j : Nat) : Int)), (14, .int .u64 e'), (18, .int .i64 ((k : Nat) : Int)), (148, undef)] ∧ k ≤ c.th.toNat ∧ K.Hands (handEl b_13) 58 5 hd2 ((some ⟨r_26, 0, none⟩)) (hs.set tk (⟨(stepE c ((lns c).toNat) (newE 0 ((tk : Nat) : Int)) M).1, true, h0.at_⟩ : HandE)) ∧ K.Sat w0 [hd2, gl_18, l_193, g2_186, m_20, g_2, fr] w_) ((fun (k : Nat) => c.th.toNat - k) 0) ?_ ?_
          ·
           exact ⟨0, ld_238, rfl, ⟨by rfl, by rfl, by rfl, by rfl, by rfl, by rfl, by rfl, by rfl, by rfl, by rfl, by rfl, trivial⟩, (by omega), hd_237, hS.pick [0, 1, 2, 3, 4, 5, 6]⟩
          ·
           clear hS
           intro m_240 F_241 w hI
           obtain ⟨k, hd2, rfl, sl_242, p_243, x_244, hS⟩ := hI
           rw [← K.Sl.puts sl_242]; clear sl_242
           refine K.s (K.s (K.g (K.q [.int .i64 ((k : Nat) : Int), .slice (some ⟨r_26, 0, none⟩) c.th.toNat c.th.toNat] ?_)))
           refine K.a (K.QR.len (P := Try.prog) rfl rfl Try.underlying51) ?_
           by_cases h_245 : (((k : Nat) : Int) : Int) < (((c.th.toNat : Nat) : Int) : Int)
           ·
            refine K.y ((((k : Nat) : Int) : Int) < (((c.th.toNat : Nat) : Int) : Int)) h_245 ?_
            refine K.z (K.t (K.h (K.k (K.t (K.s ?_)))))
            refine K.KW.block ?_
            refine K.s ?_
            obtain ⟨h1, hk1⟩ := hs_at (hs := (hs.set tk (⟨(stepE c ((lns c).toNat) (newE 0 ((tk : Nat) : Int)) M).1, true, h0.at_⟩ : HandE))) (t := k) (by omega)
            have hat1 := hI_239.at_ k _ hk1
            obtain ⟨row_246, hA_247, hg_248, hB_249, cs_250, rfl, hcs_251, hall_252, htl_253, hct_254, hel_255, how_256, hcl_257⟩ := x_244.open_ k h1 hk1
            replace hS : K.Sat w0 [row_246, hA_247, hg_248, hB_249, gl_18, l_193, g2_186, m_20, g_2, fr] w := hS.of
            obtain ⟨u2, v2, w2, hce2, hmx2⟩ := hel_255
            rw [hce2] at how_256
            replace hS : K.Sat w0 [row_246, hA_247, hg_248, hB_249, gl_18, l_193, g2_186, m_20, g_2, fr] w := hS.of (by simp [K.pick, K.nth])
            refine K.g (K.q [.slice (some ⟨r_26, 0, none⟩) c.th.toNat c.th.toNat, .int .i64 ((k : Nat) : Int)] ?_)
            refine K.a (K.QR.ix (0 + k * 5) 5 rfl rfl rfl Try.underlying51 (by kernel_rfl) (by omega) (by first | (simp; done) | omega | (simp; omega))) ?_
            refine K.q [.pointer (some ⟨r_26, 0 + k * 5 + 3, none⟩)] ?_
            refine K.d (.bool h1.inn) (K.row_at0 (j := 3) (hS.ownr 0 rfl how_256) hcs_251 hall_252 rfl htl_253 rfl) ?_
            cases hb_258 : h1.inn
            ·
             refine K.q [.bool false] ?_
             refine K.RW.skip rfl (by kernel_rfl) ?_
             refine K.RW.skip rfl (by kernel_rfl) ?_
             refine K.RW.skip rfl (by kernel_rfl) ?_
             refine K.RW.skip rfl (by kernel_rfl) ?_
             refine K.RW.skip rfl (by kernel_rfl) ?_
             refine K.RW.skip rfl (by kernel_rfl) ?_
             refine K.RW.skip rfl (by kernel_rfl) ?_
             refine K.RW.skip rfl (by kernel_rfl) ?_
             refine K.q [.bool false] (K.z (K.t (K.f (K.k ?_))))
             refine K.blk_normal ?_
             refine K.t ?_
             have hd_259 : K.Hands (handEl b_13) 58 5 (row_246 ++ (hA_247 ++ ([hg_248].flatten ++ hB_249))) ((some ⟨r_26, 0, none⟩)) ((hs.set tk (⟨(stepE c ((lns c).toNat) (newE 0 ((tk : Nat) : Int)) M).1, true, h0.at_⟩ : HandE)).set k h1) := hcl_257 _ _ _ [.pointer u2, .pointer v2, .pointer w2, .bool h1.inn, .int .u64 h1.at_] rfl ⟨_, _, _, rfl, by simpa using hmx2⟩ how_256
             replace hS : K.Sat w0 [(row_246 ++ (hA_247 ++ ([hg_248].flatten ++ hB_249))), gl_18, l_193, g2_186, m_20, g_2, fr] w := (hS.pick [0, 1, 2, 3, 4, 5, 6, 7, 8, 9]).of (by simp [K.pick, K.nth])
             generalize (row_246 ++ (hA_247 ++ ([hg_248].flatten ++ hB_249))) = ld_260 at hS hd_259
             rw [K.hs_self hk1] at hd_259
             refine K.g (K.q [.int .i64 ((k : Nat) : Int)] ?_)
             refine K.a (K.QR.n64 ((((k : Nat) : Int) : Int) + (1 : Int)) ((k + 1 : Nat) : Int) (by kernel_rfl) (by omega)) ?_
             refine K.q [.int .i64 ((k + 1 : Nat) : Int)] (K.z (K.t ?_))
             refine ⟨_, ?_, k + 1, ld_260, rfl, ⟨by rfl, by rfl, by rfl, by rfl, by rfl, by rfl, by rfl, by rfl, by rfl, by rfl, by rfl, trivial⟩, (by omega), hd_259, hS.pick [0, 1, 2, 3, 4, 5, 6]⟩
             omega
            ·
             refine K.q [.bool true, .int .u64 e', .slice (some ⟨r_26, 0, none⟩) c.th.toNat c.th.toNat, .int .i64 ((k : Nat) : Int)] ?_
             refine K.a (K.QR.ix (0 + k * 5) 5 rfl rfl rfl Try.underlying51 (by kernel_rfl) (by omega) (by first | (simp; done) | omega | (simp; omega))) ?_
             refine K.q [.pointer (some ⟨r_26, 0 + k * 5 + 4, none⟩)] ?_
             refine K.d (.int .u64 h1.at_) (K.row_at0 (j := 4) (hS.ownr 0 rfl how_256) hcs_251 hall_252 rfl htl_253 rfl) ?_
             refine K.a (K.QR.nu64 ((h1.at_ : Int) + (1 : Int)) ((h1.at_ : Int) + (1 : Int)) (by kernel_rfl) (by have h := hat1 hb_258; omega)) ?_
             refine K.x ((e' : Int) > ((h1.at_ : Int) + (1 : Int) : Int)) (by have h := hat1 hb_258; omega) ?_
             refine K.q [.bool false] (K.z (K.t (K.f (K.k ?_))))
             refine K.blk_normal ?_
             refine K.t ?_
             have hd_261 : K.Hands (handEl b_13) 58 5 (row_246 ++ (hA_247 ++ ([hg_248].flatten ++ hB_249))) ((some ⟨r_26, 0, none⟩)) ((hs.set tk (⟨(stepE c ((lns c).toNat) (newE 0 ((tk : Nat) : Int)) M).1, true, h0.at_⟩ : HandE)).set k h1) := hcl_257 _ _ _ [.pointer u2, .pointer v2, .pointer w2, .bool h1.inn, .int .u64 h1.at_] rfl ⟨_, _, _, rfl, by simpa using hmx2⟩ how_256
             replace hS : K.Sat w0 [(row_246 ++ (hA_247 ++ ([hg_248].flatten ++ hB_249))), gl_18, l_193, g2_186, m_20, g_2, fr] w := (hS.pick [0, 1, 2, 3, 4, 5, 6, 7, 8, 9]).of (by simp [K.pick, K.nth])
             generalize (row_246 ++ (hA_247 ++ ([hg_248].flatten ++ hB_249))) = ld_262 at hS hd_261
             rw [K.hs_self hk1] at hd_261
             refine K.g (K.q [.int .i64 ((k : Nat) : Int)] ?_)
             refine K.a (K.QR.n64 ((((k : Nat) : Int) : Int) + (1 : Int)) ((k + 1 : Nat) : Int) (by kernel_rfl) (by omega)) ?_
             refine K.q [.int .i64 ((k + 1 : Nat) : Int)] (K.z (K.t ?_))
             refine ⟨_, ?_, k + 1, ld_262, rfl, ⟨by rfl, by rfl, by rfl, by rfl, by rfl, by rfl, by rfl, by rfl, by rfl, by rfl, by rfl, trivial⟩, (by omega), hd_261, hS.pick [0, 1, 2, 3, 4, 5, 6]⟩
             omega
           ·
            refine K.x ((((k : Nat) : Int) : Int) < (((c.th.toNat : Nat) : Int) : Int)) h_245 ?_
            refine K.z (K.t (K.f ?_))
            refine K.KW.exit ?_
            refine K.thn_exit ?_
            refine K.thn_exit ?_
            refine K.blk_hit ?_
            refine K.blk_normal ?_
            refine K.t (K.g (K.q [.int .i64 ((j : Nat) : Int)] ?_))
            refine K.a (K.QR.n64 ((((j : Nat) : Int) : Int) + (1 : Int)) ((j + 1 : Nat) : Int) (by kernel_rfl) (by omega)) ?_
            refine K.q [.int .i64 ((j + 1 : Nat) : Int)] (K.z (K.t ?_))
            refine ⟨_, ?_, j + 1, (hs.set tk (⟨(stepE c ((lns c).toNat) (newE 0 ((tk : Nat) : Int)) M).1, true, h0.at_⟩ : HandE)), ((stepE c ((lns c).toNat) (newE 0 ((tk : Nat) : Int)) M).2), e', hd2, l_193, rfl, ⟨by rfl, by rfl, by rfl, by rfl, by rfl, by rfl, by rfl, by rfl, by rfl, trivial⟩, (by omega), (hI_239), x_244, x_195, hS.pick [0, 1, 2, 4, 5, 6]⟩
            omega
        ·
         replace hS : K.Sat w0 [gl_18, l_193, g_192, g2_186, hg_41, l_190, hA_40, hB_42, m_20, g_2, fr] w := hS
         have hin' : (false = true ↔ annW (lns c).toNat (stepE c ((lns c).toNat) (newE 0 ((tk : Nat) : Int)) M).2 tk ≠ 0) := by unfold annW; rw [← ann_at (c := c) (by omega), h_201]; simp
         refine K.q [.tuple #[.int .u64 0, .bool false], .int .u64 0, .bool false, .int .u64 0, .bool false] (K.z (K.t (K.s (K.s (K.g (K.q [.bool false, .bool false] ?_))))))
         refine K.RW.skip rfl (by kernel_rfl) ?_
         refine K.RW.skip rfl (by kernel_rfl) ?_
         refine K.RW.skip rfl (by kernel_rfl) ?_
         refine K.RW.skip rfl (by kernel_rfl) ?_
         refine K.RW.skip rfl (by kernel_rfl) ?_
         refine K.q [.bool false] (K.z (K.t (K.f (K.k (K.t (K.s (K.g (K.q [.pointer (some ⟨r_26, 0 + tk * 5, none⟩), .bool false, .pointer (some ⟨r_26, 0 + tk * 5, none⟩), .pointer (some ⟨r_26, 0 + tk * 5 + 3, none⟩)] ?_))))))))
         refine K.l (K.OW.grst 5 (0 + tk * 5 + 3) [.bool false] ((cs_43.set tk [.pointer u_181, .pointer v_182, .pointer w_183, .bool false, .int .u64 h0.at_]).flatten) hS o_191 ?_ (by show _ + 1 ≤ _; omega) (K.set_at0 (j := 3) hcs_44 hall_45 rfl htl_46 (Nat.le_of_ble_eq_true rfl) rfl))
         clear hS; intro w l_263 o_264 hS
         replace hS : K.Sat w0 [gl_18, l_193, g_192, g2_186, hg_41, l_263, hA_40, hB_42, m_20, g_2, fr] w := hS
         refine K.z (K.t (K.s ?_))
         have hd_265 : K.Hands (handEl b_13) 58 5 (l_263 ++ (hA_40 ++ ([g_192].flatten ++ hB_42))) ((some ⟨r_26, 0, none⟩)) (hs.set tk (⟨(stepE c ((lns c).toNat) (newE 0 ((tk : Nat) : Int)) M).1, false, h0.at_⟩ : HandE)) := hcl_50 _ _ _ [.pointer u_181, .pointer v_182, .pointer w_183, .bool false, .int .u64 h0.at_] rfl ⟨_, _, _, rfl, by simpa using h_194⟩ o_264
         replace hS : K.Sat w0 [(l_263 ++ (hA_40 ++ ([g_192].flatten ++ hB_42))), gl_18, l_193, g2_186, m_20, g_2, fr] w := (hS.pick [5, 6, 2, 7, 0, 1, 3, 8, 9, 10]).of (by simp [K.pick, K.nth])
         generalize (l_263 ++ (hA_40 ++ ([g_192].flatten ++ hB_42))) = ld_266 at hS hd_265
         have hI_267 : HInv c (lns c).toNat (hs.set tk (⟨(stepE c ((lns c).toNat) (newE 0 ((tk : Nat) : Int)) M).1, false, h0.at_⟩ : HandE)) (stepE c ((lns c).toNat) (newE 0 ((tk : Nat) : Int)) M).2 e' (j + 1) := by have h := hnext false hin'; rwa [if_neg (fun h => by cases h.1)] at h
         have hlen2 := hI_267.len
         have heb2 := hI_267.eb
         refine K.g (K.q [.int .i64 0] (K.z (K.t ?_)))
         refine K.KW.block ?_
         refine K.KW.loop (fun m_ F_ w_ => ∃ (k : Nat) (hd2 : K.Cs), m_ = c.th.toNat - k ∧ K.Sl F_ [(0, .agg #[.int .i64 c.th, .int .i64 c.sl, .int .i64 c.lo, .int .i64 c.bu]), (1, .slice (some ⟨b_37, of_38, none⟩) xs.length cap), (2, .pointer (some ⟨r_1, 0, none⟩)), (5, .pointer (some ⟨b_13, 0, none⟩)), (6, .pointer (some ⟨p_14, 0, none⟩)), (8, .bool true), (9, .slice (some ⟨r_26, 0, none⟩) c.th.toNat c.th.toNat), (10, .int .i64 ((j : Nat) : Int)), (14, .int .u64 e'), (18, .int .i64 ((k : Nat) : Int)), (148, undef)] ∧ k ≤ c.th.toNat ∧ K.Hands (handEl b_13) 58 5 hd2 ((some ⟨r_26, 0, none⟩)) (hs.set tk (⟨(stepE c ((lns c).toNat) (newE 0 ((tk : Nat) : Int)) M).1, false, h0.at_⟩ : HandE)) ∧ K.Sat w0 [hd2, gl_18, l_193, g2_186, m_20, g_2, fr] w_) ((fun (k : Nat) => c.th.toNat - k) 0) ?_ ?_
         ·
          exact ⟨0, ld_266, rfl, ⟨by rfl, by rfl, by rfl, by rfl, by rfl, by rfl, by rfl, by rfl, by rfl, by rfl, by rfl, trivial⟩, (by omega), hd_265, hS.pick [0, 1, 2, 3, 4, 5, 6]⟩
         ·
          clear hS
          intro m_268 F_269 w hI
          obtain ⟨k, hd2, rfl, sl_270, p_271, x_272, hS⟩ := hI
          rw [← K.Sl.puts sl_270]; clear sl_270
          refine K.s (K.s (K.g (K.q [.int .i64 ((k : Nat) : Int), .slice (some ⟨r_26, 0, none⟩) c.th.toNat c.th.toNat] ?_)))
          refine K.a (K.QR.len (P := Try.prog) rfl rfl Try.underlying51) ?_
          by_cases h_273 : (((k : Nat) : Int) : Int) < (((c.th.toNat : Nat) : Int) : Int)
          ·
           refine K.y ((((k : Nat) : Int) : Int) < (((c.th.toNat : Nat) : Int) : Int)) h_273 ?_
           refine K.z (K.t (K.h (K.k (K.t (K.s ?_)))))
           refine K.KW.block ?_
           refine K.s ?_
           obtain ⟨h1, hk1⟩ := hs_at (hs := (hs.set tk (⟨(stepE c ((lns c).toNat) (newE 0 ((tk : Nat) : Int)) M).1, false, h0.at_⟩ : HandE))) (t := k) (by omega)
           have hat1 := hI_267.at_ k _ hk1
           obtain ⟨row_274, hA_275, hg_276, hB_277, cs_278, rfl, hcs_279, hall_280, htl_281, hct_282, hel_283, how_284, hcl_285⟩ := x_272.open_ k h1 hk1
           replace hS : K.Sat w0 [row_274, hA_275, hg_276, hB_277, gl_18, l_193, g2_186, m_20, g_2, fr] w := hS.of
           obtain ⟨u2, v2, w2, hce2, hmx2⟩ := hel_283
           rw [hce2] at how_284
           replace hS : K.Sat w0 [row_274, hA_275, hg_276, hB_277, gl_18, l_193, g2_186, m_20, g_2, fr] w := hS.of (by simp [K.pick, K.nth])
           refine K.g (K.q [.slice (some ⟨r_26, 0, none⟩) c.th.toNat c.th.toNat, .int .i64 ((k : Nat) : Int)] ?_)
           refine K.a (K.QR.ix (0 + k * 5) 5 rfl rfl rfl Try.underlying51 (by kernel_rfl) (by omega) (by first | (simp; done) | omega | (simp; omega))) ?_
           refine K.q [.pointer (some ⟨r_26, 0 + k * 5 + 3, none⟩)] ?_
           refine K.d (.bool h1.inn) (K.row_at0 (j := 3) (hS.ownr 0 rfl how_284) hcs_279 hall_280 rfl htl_281 rfl) ?_
           cases hb_286 : h1.inn
           ·
            refine K.q [.bool false] ?_
            refine K.RW.skip rfl (by kernel_rfl) ?_
            refine K.RW.skip rfl (by kernel_rfl) ?_
            refine K.RW.skip rfl (by kernel_rfl) ?_
            refine K.RW.skip rfl (by kernel_rfl) ?_
            refine K.RW.skip rfl (by kernel_rfl) ?_
            refine K.RW.skip rfl (by kernel_rfl) ?_
            refine K.RW.skip rfl (by kernel_rfl) ?_
            refine K.RW.skip rfl (by kernel_rfl) ?_
            refine K.q [.bool false] (K.z (K.t (K.f (K.k ?_))))
            refine K.blk_normal ?_
            refine K.t ?_
            have hd_287 : K.Hands (handEl b_13) 58 5 (row_274 ++ (hA_275 ++ ([hg_276].flatten ++ hB_277))) ((some ⟨r_26, 0, none⟩)) ((hs.set tk (⟨(stepE c ((lns c).toNat) (newE 0 ((tk : Nat) : Int)) M).1, false, h0.at_⟩ : HandE)).set k h1) := hcl_285 _ _ _ [.pointer u2, .pointer v2, .pointer w2, .bool h1.inn, .int .u64 h1.at_] rfl ⟨_, _, _, rfl, by simpa using hmx2⟩ how_284
            replace hS : K.Sat w0 [(row_274 ++ (hA_275 ++ ([hg_276].flatten ++ hB_277))), gl_18, l_193, g2_186, m_20, g_2, fr] w := (hS.pick [0, 1, 2, 3, 4, 5, 6, 7, 8, 9]).of (by simp [K.pick, K.nth])
            generalize (row_274 ++ (hA_275 ++ ([hg_276].flatten ++ hB_277))) = ld_288 at hS hd_287
            rw [K.hs_self hk1] at hd_287
            refine K.g (K.q [.int .i64 ((k : Nat) : Int)] ?_)
            refine K.a (K.QR.n64 ((((k : Nat) : Int) : Int) + (1 : Int)) ((k + 1 : Nat) : Int) (by kernel_rfl) (by omega)) ?_
            refine K.q [.int .i64 ((k + 1 : Nat) : Int)] (K.z (K.t ?_))
            refine ⟨_, ?_, k + 1, ld_288, rfl, ⟨by rfl, by rfl, by rfl, by rfl, by rfl, by rfl, by rfl, by rfl, by rfl, by rfl, by rfl, trivial⟩, (by omega), hd_287, hS.pick [0, 1, 2, 3, 4, 5, 6]⟩
            omega
           ·
            refine K.q [.bool true, .int .u64 e', .slice (some ⟨r_26, 0, none⟩) c.th.toNat c.th.toNat, .int .i64 ((k : Nat) : Int)] ?_
            refine K.a (K.QR.ix (0 + k * 5) 5 rfl rfl rfl Try.underlying51 (by kernel_rfl) (by omega) (by first | (simp; done) | omega | (simp; omega))) ?_
            refine K.q [.pointer (some ⟨r_26, 0 + k * 5 + 4, none⟩)] ?_
            refine K.d (.int .u64 h1.at_) (K.row_at0 (j := 4) (hS.ownr 0 rfl how_284) hcs_279 hall_280 rfl htl_281 rfl) ?_
            refine K.a (K.QR.nu64 ((h1.at_ : Int) + (1 : Int)) ((h1.at_ : Int) + (1 : Int)) (by kernel_rfl) (by have h := hat1 hb_286; omega)) ?_
            refine K.x ((e' : Int) > ((h1.at_ : Int) + (1 : Int) : Int)) (by have h := hat1 hb_286; omega) ?_
            refine K.q [.bool false] (K.z (K.t (K.f (K.k ?_))))
            refine K.blk_normal ?_
            refine K.t ?_
            have hd_289 : K.Hands (handEl b_13) 58 5 (row_274 ++ (hA_275 ++ ([hg_276].flatten ++ hB_277))) ((some ⟨r_26, 0, none⟩)) ((hs.set tk (⟨(stepE c ((lns c).toNat) (newE 0 ((tk : Nat) : Int)) M).1, false, h0.at_⟩ : HandE)).set k h1) := hcl_285 _ _ _ [.pointer u2, .pointer v2, .pointer w2, .bool h1.inn, .int .u64 h1.at_] rfl ⟨_, _, _, rfl, by simpa using hmx2⟩ how_284
            replace hS : K.Sat w0 [(row_274 ++ (hA_275 ++ ([hg_276].flatten ++ hB_277))), gl_18, l_193, g2_186, m_20, g_2, fr] w := (hS.pick [0, 1, 2, 3, 4, 5, 6, 7, 8, 9]).of (by simp [K.pick, K.nth])
            generalize (row_274 ++ (hA_275 ++ ([hg_276].flatten ++ hB_277))) = ld_290 at hS hd_289
            rw [K.hs_self hk1] at hd_289
            refine K.g (K.q [.int .i64 ((k : Nat) : Int)] ?_)
            refine K.a (K.QR.n64 ((((k : Nat) : Int) : Int) + (1 : Int)) ((k + 1 : Nat) : Int) (by kernel_rfl) (by omega)) ?_
            refine K.q [.int .i64 ((k + 1 : Nat) : Int)] (K.z (K.t ?_))
            refine ⟨_, ?_, k + 1, ld_290, rfl, ⟨by rfl, by rfl, by rfl, by rfl, by rfl, by rfl, by rfl, by rfl, by rfl, by rfl, by rfl, trivial⟩, (by omega), hd_289, hS.pick [0, 1, 2, 3, 4, 5, 6]⟩
            omega
          ·
           refine K.x ((((k : Nat) : Int) : Int) < (((c.th.toNat : Nat) : Int) : Int)) h_273 ?_
           refine K.z (K.t (K.f ?_))
           refine K.KW.exit ?_
           refine K.thn_exit ?_
           refine K.thn_exit ?_
           refine K.blk_hit ?_
           refine K.blk_normal ?_
           refine K.t (K.g (K.q [.int .i64 ((j : Nat) : Int)] ?_))
           refine K.a (K.QR.n64 ((((j : Nat) : Int) : Int) + (1 : Int)) ((j + 1 : Nat) : Int) (by kernel_rfl) (by omega)) ?_
           refine K.q [.int .i64 ((j + 1 : Nat) : Int)] (K.z (K.t ?_))
           refine ⟨_, ?_, j + 1, (hs.set tk (⟨(stepE c ((lns c).toNat) (newE 0 ((tk : Nat) : Int)) M).1, false, h0.at_⟩ : HandE)), ((stepE c ((lns c).toNat) (newE 0 ((tk : Nat) : Int)) M).2), e', hd2, l_193, rfl, ⟨by rfl, by rfl, by rfl, by rfl, by rfl, by rfl, by rfl, by rfl, by rfl, trivial⟩, (by omega), (hI_267), x_272, x_195, hS.pick [0, 1, 2, 4, 5, 6]⟩
           omega
        ·
         replace hS : K.Sat w0 [gl_18, l_193, g_192, g2_186, hg_41, l_190, hA_40, hB_42, m_20, g_2, fr] w := hS
         have hin' : (false = true ↔ annW (lns c).toNat (stepE c ((lns c).toNat) (newE 0 ((tk : Nat) : Int)) M).2 tk ≠ 0) := by unfold annW; rw [← ann_at (c := c) (by omega), h_202]; simp
         refine K.q [.tuple #[.int .u64 0, .bool false], .int .u64 0, .bool false, .int .u64 0, .bool false] (K.z (K.t (K.s (K.s (K.g (K.q [.bool false, .bool false] ?_))))))
         refine K.RW.skip rfl (by kernel_rfl) ?_
         refine K.RW.skip rfl (by kernel_rfl) ?_
         refine K.RW.skip rfl (by kernel_rfl) ?_
         refine K.RW.skip rfl (by kernel_rfl) ?_
         refine K.RW.skip rfl (by kernel_rfl) ?_
         refine K.q [.bool false] (K.z (K.t (K.f (K.k (K.t (K.s (K.g (K.q [.pointer (some ⟨r_26, 0 + tk * 5, none⟩), .bool false, .pointer (some ⟨r_26, 0 + tk * 5, none⟩), .pointer (some ⟨r_26, 0 + tk * 5 + 3, none⟩)] ?_))))))))
         refine K.l (K.OW.grst 5 (0 + tk * 5 + 3) [.bool false] ((cs_43.set tk [.pointer u_181, .pointer v_182, .pointer w_183, .bool false, .int .u64 h0.at_]).flatten) hS o_191 ?_ (by show _ + 1 ≤ _; omega) (K.set_at0 (j := 3) hcs_44 hall_45 rfl htl_46 (Nat.le_of_ble_eq_true rfl) rfl))
         clear hS; intro w l_291 o_292 hS
         replace hS : K.Sat w0 [gl_18, l_193, g_192, g2_186, hg_41, l_291, hA_40, hB_42, m_20, g_2, fr] w := hS
         refine K.z (K.t (K.s ?_))
         have hd_293 : K.Hands (handEl b_13) 58 5 (l_291 ++ (hA_40 ++ ([g_192].flatten ++ hB_42))) ((some ⟨r_26, 0, none⟩)) (hs.set tk (⟨(stepE c ((lns c).toNat) (newE 0 ((tk : Nat) : Int)) M).1, false, h0.at_⟩ : HandE)) := hcl_50 _ _ _ [.pointer u_181, .pointer v_182, .pointer w_183, .bool false, .int .u64 h0.at_] rfl ⟨_, _, _, rfl, by simpa using h_194⟩ o_292
         replace hS : K.Sat w0 [(l_291 ++ (hA_40 ++ ([g_192].flatten ++ hB_42))), gl_18, l_193, g2_186, m_20, g_2, fr] w := (hS.pick [5, 6, 2, 7, 0, 1, 3, 8, 9, 10]).of (by simp [K.pick, K.nth])
         generalize (l_291 ++ (hA_40 ++ ([g_192].flatten ++ hB_42))) = ld_294 at hS hd_293
         have hI_295 : HInv c (lns c).toNat (hs.set tk (⟨(stepE c ((lns c).toNat) (newE 0 ((tk : Nat) : Int)) M).1, false, h0.at_⟩ : HandE)) (stepE c ((lns c).toNat) (newE 0 ((tk : Nat) : Int)) M).2 e' (j + 1) := by have h := hnext false hin'; rwa [if_neg (fun h => by cases h.1)] at h
         have hlen2 := hI_295.len
         have heb2 := hI_295.eb
         refine K.g (K.q [.int .i64 0] (K.z (K.t ?_)))
         refine K.KW.block ?_
         refine K.KW.loop (fun m_ F_ w_ => ∃ (k : Nat) (hd2 : K.Cs), m_ = c.th.toNat - k ∧ K.Sl F_ [(0, .agg #[.int .i64 c.th, .int .i64 c.sl, .int .i64 c.lo, .int .i64 c.bu]), (1, .slice (some ⟨b_37, of_38, none⟩) xs.length cap), (2, .pointer (some ⟨r_1, 0, none⟩)), (5, .pointer (some ⟨b_13, 0, none⟩)), (6, .pointer (some ⟨p_14, 0, none⟩)), (8, .bool true), (9, .slice (some ⟨r_26, 0, none⟩) c.th.toNat c.th.toNat), (10, .int .i64 ((j : Nat) : Int)), (14, .int .u64 e'), (18, .int .i64 ((k : Nat) : Int)), (148, undef)] ∧ k ≤ c.th.toNat ∧ K.Hands (handEl b_13) 58 5 hd2 ((some ⟨r_26, 0, none⟩)) (hs.set tk (⟨(stepE c ((lns c).toNat) (newE 0 ((tk : Nat) : Int)) M).1, false, h0.at_⟩ : HandE)) ∧ K.Sat w0 [hd2, gl_18, l_193, g2_186, m_20, g_2, fr] w_) ((fun (k : Nat) => c.th.toNat - k) 0) ?_ ?_
         ·
          exact ⟨0, ld_294, rfl, ⟨by rfl, by rfl, by rfl, by rfl, by rfl, by rfl, by rfl, by rfl, by rfl, by rfl, by rfl, trivial⟩, (by omega), hd_293, hS.pick [0, 1, 2, 3, 4, 5, 6]⟩
         ·
          clear hS
          intro m_296 F_297 w hI
          obtain ⟨k, hd2, rfl, sl_298, p_299, x_300, hS⟩ := hI
          rw [← K.Sl.puts sl_298]; clear sl_298
          refine K.s (K.s (K.g (K.q [.int .i64 ((k : Nat) : Int), .slice (some ⟨r_26, 0, none⟩) c.th.toNat c.th.toNat] ?_)))
          refine K.a (K.QR.len (P := Try.prog) rfl rfl Try.underlying51) ?_
          by_cases h_301 : (((k : Nat) : Int) : Int) < (((c.th.toNat : Nat) : Int) : Int)
          ·
           refine K.y ((((k : Nat) : Int) : Int) < (((c.th.toNat : Nat) : Int) : Int)) h_301 ?_
           refine K.z (K.t (K.h (K.k (K.t (K.s ?_)))))
           refine K.KW.block ?_
           refine K.s ?_
           obtain ⟨h1, hk1⟩ := hs_at (hs := (hs.set tk (⟨(stepE c ((lns c).toNat) (newE 0 ((tk : Nat) : Int)) M).1, false, h0.at_⟩ : HandE))) (t := k) (by omega)
           have hat1 := hI_295.at_ k _ hk1
           obtain ⟨row_302, hA_303, hg_304, hB_305, cs_306, rfl, hcs_307, hall_308, htl_309, hct_310, hel_311, how_312, hcl_313⟩ := x_300.open_ k h1 hk1
           replace hS : K.Sat w0 [row_302, hA_303, hg_304, hB_305, gl_18, l_193, g2_186, m_20, g_2, fr] w := hS.of
           obtain ⟨u2, v2, w2, hce2, hmx2⟩ := hel_311
           rw [hce2] at how_312
           replace hS : K.Sat w0 [row_302, hA_303, hg_304, hB_305, gl_18, l_193, g2_186, m_20, g_2, fr] w := hS.of (by simp [K.pick, K.nth])
           refine K.g (K.q [.slice (some ⟨r_26, 0, none⟩) c.th.toNat c.th.toNat, .int .i64 ((k : Nat) : Int)] ?_)
           refine K.a (K.QR.ix (0 + k * 5) 5 rfl rfl rfl Try.underlying51 (by kernel_rfl) (by omega) (by first | (simp; done) | omega | (simp; omega))) ?_
           refine K.q [.pointer (some ⟨r_26, 0 + k * 5 + 3, none⟩)] ?_
           refine K.d (.bool h1.inn) (K.row_at0 (j := 3) (hS.ownr 0 rfl how_312) hcs_307 hall_308 rfl htl_309 rfl) ?_
           cases hb_314 : h1.inn
           ·
            refine K.q [.bool false] ?_
            refine K.RW.skip rfl (by kernel_rfl) ?_
            refine K.RW.skip rfl (by kernel_rfl) ?_
            refine K.RW.skip rfl (by kernel_rfl) ?_
            refine K.RW.skip rfl (by kernel_rfl) ?_
            refine K.RW.skip rfl (by kernel_rfl) ?_
            refine K.RW.skip rfl (by kernel_rfl) ?_
            refine K.RW.skip rfl (by kernel_rfl) ?_
            refine K.RW.skip rfl (by kernel_rfl) ?_
            refine K.q [.bool false] (K.z (K.t (K.f (K.k ?_))))
            refine K.blk_normal ?_
            refine K.t ?_
            have hd_315 : K.Hands (handEl b_13) 58 5 (row_302 ++ (hA_303 ++ ([hg_304].flatten ++ hB_305))) ((some ⟨r_26, 0, none⟩)) ((hs.set tk (⟨(stepE c ((lns c).toNat) (newE 0 ((tk : Nat) : Int)) M).1, false, h0.at_⟩ : HandE)).set k h1) := hcl_313 _ _ _ [.pointer u2, .pointer v2, .pointer w2, .bool h1.inn, .int .u64 h1.at_] rfl ⟨_, _, _, rfl, by simpa using hmx2⟩ how_312
            replace hS : K.Sat w0 [(row_302 ++ (hA_303 ++ ([hg_304].flatten ++ hB_305))), gl_18, l_193, g2_186, m_20, g_2, fr] w := (hS.pick [0, 1, 2, 3, 4, 5, 6, 7, 8, 9]).of (by simp [K.pick, K.nth])
            generalize (row_302 ++ (hA_303 ++ ([hg_304].flatten ++ hB_305))) = ld_316 at hS hd_315
            rw [K.hs_self hk1] at hd_315
            refine K.g (K.q [.int .i64 ((k : Nat) : Int)] ?_)
            refine K.a (K.QR.n64 ((((k : Nat) : Int) : Int) + (1 : Int)) ((k + 1 : Nat) : Int) (by kernel_rfl) (by omega)) ?_
            refine K.q [.int .i64 ((k + 1 : Nat) : Int)] (K.z (K.t ?_))
            refine ⟨_, ?_, k + 1, ld_316, rfl, ⟨by rfl, by rfl, by rfl, by rfl, by rfl, by rfl, by rfl, by rfl, by rfl, by rfl, by rfl, trivial⟩, (by omega), hd_315, hS.pick [0, 1, 2, 3, 4, 5, 6]⟩
            omega
           ·
            refine K.q [.bool true, .int .u64 e', .slice (some ⟨r_26, 0, none⟩) c.th.toNat c.th.toNat, .int .i64 ((k : Nat) : Int)] ?_
            refine K.a (K.QR.ix (0 + k * 5) 5 rfl rfl rfl Try.underlying51 (by kernel_rfl) (by omega) (by first | (simp; done) | omega | (simp; omega))) ?_
            refine K.q [.pointer (some ⟨r_26, 0 + k * 5 + 4, none⟩)] ?_
            refine K.d (.int .u64 h1.at_) (K.row_at0 (j := 4) (hS.ownr 0 rfl how_312) hcs_307 hall_308 rfl htl_309 rfl) ?_
            refine K.a (K.QR.nu64 ((h1.at_ : Int) + (1 : Int)) ((h1.at_ : Int) + (1 : Int)) (by kernel_rfl) (by have h := hat1 hb_314; omega)) ?_
            refine K.x ((e' : Int) > ((h1.at_ : Int) + (1 : Int) : Int)) (by have h := hat1 hb_314; omega) ?_
            refine K.q [.bool false] (K.z (K.t (K.f (K.k ?_))))
            refine K.blk_normal ?_
            refine K.t ?_
            have hd_317 : K.Hands (handEl b_13) 58 5 (row_302 ++ (hA_303 ++ ([hg_304].flatten ++ hB_305))) ((some ⟨r_26, 0, none⟩)) ((hs.set tk (⟨(stepE c ((lns c).toNat) (newE 0 ((tk : Nat) : Int)) M).1, false, h0.at_⟩ : HandE)).set k h1) := hcl_313 _ _ _ [.pointer u2, .pointer v2, .pointer w2, .bool h1.inn, .int .u64 h1.at_] rfl ⟨_, _, _, rfl, by simpa using hmx2⟩ how_312
            replace hS : K.Sat w0 [(row_302 ++ (hA_303 ++ ([hg_304].flatten ++ hB_305))), gl_18, l_193, g2_186, m_20, g_2, fr] w := (hS.pick [0, 1, 2, 3, 4, 5, 6, 7, 8, 9]).of (by simp [K.pick, K.nth])
            generalize (row_302 ++ (hA_303 ++ ([hg_304].flatten ++ hB_305))) = ld_318 at hS hd_317
            rw [K.hs_self hk1] at hd_317
            refine K.g (K.q [.int .i64 ((k : Nat) : Int)] ?_)
            refine K.a (K.QR.n64 ((((k : Nat) : Int) : Int) + (1 : Int)) ((k + 1 : Nat) : Int) (by kernel_rfl) (by omega)) ?_
            refine K.q [.int .i64 ((k + 1 : Nat) : Int)] (K.z (K.t ?_))
            refine ⟨_, ?_, k + 1, ld_318, rfl, ⟨by rfl, by rfl, by rfl, by rfl, by rfl, by rfl, by rfl, by rfl, by rfl, by rfl, by rfl, trivial⟩, (by omega), hd_317, hS.pick [0, 1, 2, 3, 4, 5, 6]⟩
            omega
          ·
           refine K.x ((((k : Nat) : Int) : Int) < (((c.th.toNat : Nat) : Int) : Int)) h_301 ?_
           refine K.z (K.t (K.f ?_))
           refine K.KW.exit ?_
           refine K.thn_exit ?_
           refine K.thn_exit ?_
           refine K.blk_hit ?_
           refine K.blk_normal ?_
           refine K.t (K.g (K.q [.int .i64 ((j : Nat) : Int)] ?_))
           refine K.a (K.QR.n64 ((((j : Nat) : Int) : Int) + (1 : Int)) ((j + 1 : Nat) : Int) (by kernel_rfl) (by omega)) ?_
           refine K.q [.int .i64 ((j + 1 : Nat) : Int)] (K.z (K.t ?_))
           refine ⟨_, ?_, j + 1, (hs.set tk (⟨(stepE c ((lns c).toNat) (newE 0 ((tk : Nat) : Int)) M).1, false, h0.at_⟩ : HandE)), ((stepE c ((lns c).toNat) (newE 0 ((tk : Nat) : Int)) M).2), e', hd2, l_193, rfl, ⟨by rfl, by rfl, by rfl, by rfl, by rfl, by rfl, by rfl, by rfl, by rfl, trivial⟩, (by omega), (hI_295), x_300, x_195, hS.pick [0, 1, 2, 4, 5, 6]⟩
           omega
       ·
        refine K.q [.bool true] (K.z (K.t (K.h (K.g (K.q [.int .i64 1] (K.z (K.t (K.g (K.q [.pointer (some ⟨r_26, 0 + tk * 5, none⟩), .pointer (some ⟨b_13, 0, none⟩)] ?_)))))))))
        refine K.a (K.QR.ldN [.int .i64 c.th, .int .i64 c.sl, .int .i64 c.lo, .int .i64 c.bu] rfl rfl (by kernel_rfl) (by kernel_rfl) (K.cells (K.cl ((hS.blk 7 rfl hg_3).cell rfl) (K.cl ((hS.blk 7 rfl hg_3).cell rfl) (K.cl ((hS.blk 7 rfl hg_3).cell rfl) (K.cl ((hS.blk 7 rfl hg_3).cell rfl) K.cl0)))))) ?_
        refine K.q [.int .i64 1, .int .i64 ((tk : Nat) : Int)] ?_
        refine K.l (K.OW.gcall hS [] [0, 1, 2, 3, 4, 5, 6, 7, 8] [.pointer (some ⟨b_13, 0, none⟩), .agg #[.int .i64 c.th, .int .i64 c.sl, .int .i64 c.lo, .int .i64 c.bu], .int .i64 1, .int .i64 ((tk : Nat) : Int)] (made_le _ _ c ((tk : Nat) : Int) (by omega)) ?_)
        clear hS; rintro _ _ w ⟨u_319, v_320, w_321, r_322, g_323, g2_324, rfl, rfl, h_325⟩ hS
        replace hS : K.Sat w0 [g_323, g2_324, hg_41, row_39, hA_40, hB_42, gl_18, l1, m_20, g_2, fr] w := hS
        have hx_326 : (newE 1 ((tk : Nat) : Int)).good := newE_good (by omega)
        have hnd_327 := newE_done 1 ((tk : Nat) : Int)
        have hok1 := MOk_new hs e tk h0.inn 1 (fun h => absurd h (by decide))
        refine K.q [.tuple #[.agg #[.pointer u_319, .pointer v_320, .pointer w_321], .pointer (some ⟨r_322, 0, none⟩)], .agg #[.pointer u_319, .pointer v_320, .pointer w_321], .pointer (some ⟨r_322, 0, none⟩), .pointer (some ⟨r_26, 0 + tk * 5, none⟩), .pointer (some ⟨r_26, 0 + tk * 5, none⟩)] ?_
        refine K.l (K.OW.grst 3 (0 + tk * 5 + 0) [.pointer u_319, .pointer v_320, .pointer w_321] ((cs_43.set tk [.pointer u_319, .pointer v_320, .pointer w_321, .bool h0.inn, .int .u64 h0.at_]).flatten) hS how_49 ?_ (by show _ + 3 ≤ _; omega) (K.set_at0 (j := 0) hcs_44 hall_45 rfl htl_46 (Nat.le_of_ble_eq_true rfl) rfl))
        clear hS; intro w l_328 o_329 hS
        replace hS : K.Sat w0 [g_323, g2_324, hg_41, l_328, hA_40, hB_42, gl_18, l1, m_20, g_2, fr] w := hS
        refine K.z (K.t (K.s (K.g (K.q [.pointer (some ⟨r_26, 0 + tk * 5, none⟩), .pointer (some ⟨r_26, 0 + tk * 5, none⟩), .pointer (some ⟨r_26, 0 + tk * 5, none⟩)] ?_))))
        refine K.a (K.QR.ldN [.pointer u_319, .pointer v_320, .pointer w_321] rfl rfl (by kernel_rfl) (by kernel_rfl) (K.cells (K.cl (K.row_at0 (j := 0) (hS.ownr 3 rfl o_329) hcs_44 hall_45 rfl htl_46 rfl) (K.cl (K.row_at0 (j := 1) (hS.ownr 3 rfl o_329) hcs_44 hall_45 rfl htl_46 rfl) (K.cl (K.row_at0 (j := 2) (hS.ownr 3 rfl o_329) hcs_44 hall_45 rfl htl_46 rfl) K.cl0))))) ?_
        refine K.q [.pointer (some ⟨p_14, 0, none⟩)] ?_
        refine K.l (K.OW.gcall hS [0, 6, 7] [1, 2, 3, 4, 5, 8, 9, 10] [.agg #[.pointer u_319, .pointer v_320, .pointer w_321], .pointer (some ⟨p_14, 0, none⟩)] (machStep_ok _ _ _ _ _ _ c (by first | assumption | (unfold cfgOk; decide)) (newE 1 ((tk : Nat) : Int)) M _ _ _ _ _ _ h_325 hl_21 x_35 (by assumption) (by assumption) (by assumption)) ?_)
        clear hS; rintro _ _ w ⟨g_330, l_331, rfl, rfl, h_332, x_333⟩ hS
        replace hS : K.Sat w0 [g_330, gl_18, l_331, g2_324, hg_41, l_328, hA_40, hB_42, m_20, g_2, fr] w := hS
        obtain ⟨hx_334, hM_335⟩ := (stepE_good (by first | assumption | (unfold cfgOk; decide)) (by assumption) (by assumption) : (stepE c ((lns c).toNat) (newE 1 ((tk : Nat) : Int)) M).1.good ∧ (stepE c ((lns c).toNat) (newE 1 ((tk : Nat) : Int)) M).2.good)
        refine K.z (K.t (K.s ?_))
        obtain ⟨e', hpk', hnext⟩ := HInv.next (by omega) hI (by omega) hSo (by first | assumption | (unfold cfgOk; decide)) (by assumption) (by assumption) hok1
        refine K.g (K.q [.pointer (some ⟨p_14, 0, none⟩)] ?_)
        refine K.l (K.OW.gcall hS [2] [0, 1, 3, 4, 5, 6, 7, 8, 9, 10] [.pointer (some ⟨p_14, 0, none⟩), .int .i64 (-1)] (pkS_ok _ _ _ _ _ _ _ x_333 ((-1) : Int) (by first | omega | assumption | exact aft_int (by assumption) _ | exact ann_int (by assumption) _ (by first | omega | assumption)) e' (hpk')) ?_)
        clear hS; rintro _ _ w ⟨rfl, rfl⟩ hS
        replace hS : K.Sat w0 [l_331, g_330, gl_18, g2_324, hg_41, l_328, hA_40, hB_42, m_20, g_2, fr] w := hS
        refine K.q [.tuple #[.int .u64 e', .bool true], .int .u64 e', .bool true, .int .u64 e', .bool true] (K.z (K.t (K.s (K.g (K.q [.pointer (some ⟨b_13, 0, none⟩), .pointer (some ⟨p_14, 0, none⟩), .int .i64 ((tk : Nat) : Int)] ?_)))))
        refine K.l (K.OW.gcall hS [2, 0] [1, 3, 4, 5, 6, 7, 8, 9, 10] [.pointer (some ⟨b_13, 0, none⟩), .pointer (some ⟨p_14, 0, none⟩), .int .i64 ((tk : Nat) : Int)] (epIn_ok _ _ _ _ _ _ c (by first | assumption | (unfold cfgOk; decide)) ((stepE c ((lns c).toNat) (newE 1 ((tk : Nat) : Int)) M).2) _ _ hl_21 x_333 (by assumption) ((tk : Nat) : Int) (by omega)) ?_)
        clear hS; rintro _ _ w ⟨rfl, (⟨y_336, rfl, h_337, hz_338⟩ | ⟨rfl, h_339⟩ | ⟨rfl, h_340⟩)⟩ hS
        ·
         replace hS : K.Sat w0 [gl_18, l_331, g_330, g2_324, hg_41, l_328, hA_40, hB_42, m_20, g_2, fr] w := hS
         have hw_341 : isW y_336 := peek_W (by assumption) h_337
         unfold isW at hw_341
         have hin' : (true = true ↔ annW (lns c).toNat (stepE c ((lns c).toNat) (newE 1 ((tk : Nat) : Int)) M).2 tk ≠ 0) := by unfold annW; rw [← ann_at (c := c) (by omega), h_337]; simp; omega
         refine K.q [.tuple #[.int .u64 (y_336 - 1), .bool true], .int .u64 (y_336 - 1), .bool true, .int .u64 (y_336 - 1), .bool true] (K.z (K.t (K.s (K.s (K.g (K.q [.bool true, .bool true, .pointer (some ⟨r_26, 0 + tk * 5, none⟩), .pointer (some ⟨r_26, 0 + tk * 5, none⟩), .pointer (some ⟨r_26, 0 + tk * 5 + 3, none⟩)] ?_))))))
         refine K.d (.bool h0.inn) (K.row_at0 (j := 3) (hS.ownr 5 rfl o_329) hcs_44 hall_45 rfl htl_46 rfl) ?_
         cases hb_342 : h0.inn
         ·
          refine K.q [.bool true, .bool true] (K.z (K.t (K.h (K.g (K.q [.pointer (some ⟨r_26, 0 + tk * 5, none⟩), .int .u64 e', .pointer (some ⟨r_26, 0 + tk * 5, none⟩), .pointer (some ⟨r_26, 0 + tk * 5 + 4, none⟩)] ?_)))))
          refine K.l (K.OW.grst 5 (0 + tk * 5 + 4) [.int .u64 e'] ((cs_43.set tk [.pointer u_319, .pointer v_320, .pointer w_321, .bool h0.inn, .int .u64 e']).flatten) hS o_329 ?_ (by show _ + 1 ≤ _; omega) (K.set_at0 (j := 4) hcs_44 hall_45 rfl htl_46 (Nat.le_of_ble_eq_true rfl) rfl))
          clear hS; intro w l_343 o_344 hS
          replace hS : K.Sat w0 [gl_18, l_331, g_330, g2_324, hg_41, l_343, hA_40, hB_42, m_20, g_2, fr] w := hS
          refine K.z (K.t (K.s (K.g (K.q [.pointer (some ⟨r_26, 0 + tk * 5, none⟩), .bool true, .pointer (some ⟨r_26, 0 + tk * 5, none⟩), .pointer (some ⟨r_26, 0 + tk * 5 + 3, none⟩)] ?_))))
          refine K.l (K.OW.grst 5 (0 + tk * 5 + 3) [.bool true] ((cs_43.set tk [.pointer u_319, .pointer v_320, .pointer w_321, .bool true, .int .u64 e']).flatten) hS o_344 ?_ (by show _ + 1 ≤ _; omega) (K.set_at0 (j := 3) hcs_44 hall_45 rfl htl_46 (Nat.le_of_ble_eq_true rfl) rfl))
          clear hS; intro w l_345 o_346 hS
          replace hS : K.Sat w0 [gl_18, l_331, g_330, g2_324, hg_41, l_345, hA_40, hB_42, m_20, g_2, fr] w := hS
          refine K.z (K.t (K.s ?_))
          have hd_347 : K.Hands (handEl b_13) 58 5 (l_345 ++ (hA_40 ++ ([g_330].flatten ++ hB_42))) ((some ⟨r_26, 0, none⟩)) (hs.set tk (⟨(stepE c ((lns c).toNat) (newE 1 ((tk : Nat) : Int)) M).1, true, e'⟩ : HandE)) := hcl_50 _ _ _ [.pointer u_319, .pointer v_320, .pointer w_321, .bool true, .int .u64 e'] rfl ⟨_, _, _, rfl, by simpa using h_332⟩ o_346
          replace hS : K.Sat w0 [(l_345 ++ (hA_40 ++ ([g_330].flatten ++ hB_42))), gl_18, l_331, g2_324, m_20, g_2, fr] w := (hS.pick [5, 6, 2, 7, 0, 1, 3, 8, 9, 10]).of (by simp [K.pick, K.nth])
          generalize (l_345 ++ (hA_40 ++ ([g_330].flatten ++ hB_42))) = ld_348 at hS hd_347
          have hI_349 : HInv c (lns c).toNat (hs.set tk (⟨(stepE c ((lns c).toNat) (newE 1 ((tk : Nat) : Int)) M).1, true, e'⟩ : HandE)) (stepE c ((lns c).toNat) (newE 1 ((tk : Nat) : Int)) M).2 e' (j + 1) := by have h := hnext true hin'; rwa [if_pos ⟨rfl, hb_342⟩] at h
          have hlen2 := hI_349.len
          have heb2 := hI_349.eb
          refine K.g (K.q [.int .i64 0] (K.z (K.t ?_)))
          refine K.KW.block ?_
          refine K.KW.loop (fun m_ F_ w_ => ∃ (k : Nat) (hd2 : K.Cs), m_ = c.th.toNat - k ∧ K.Sl F_ [(0, .agg #[.int .i64 c.th, .int .i64 c.sl, .int .i64 c.lo, .int .i64 c.bu]), (1, .slice (some ⟨b_37, of_38, none⟩) xs.length cap), (2, .pointer (some ⟨r_1, 0, none⟩)), (5, .pointer (some ⟨b_13, 0, none⟩)), (6, .pointer (some ⟨p_14, 0, none⟩)), (8, .bool true), (9, .slice (some ⟨r_26, 0, none⟩) c.th.toNat c.th.toNat), (10, .int .i64 ((j : Nat) : Int)), (14, .int .u64 e'), (18, .int .i64 ((k : Nat) : Int)), (148, undef)] ∧ k ≤ c.th.toNat ∧ K.Hands (handEl b_13) 58 5 hd2 ((some ⟨r_26, 0, none⟩)) (hs.set tk (⟨(stepE c ((lns c).toNat) (newE 1 ((tk : Nat) : Int)) M).1, true, e'⟩ : HandE)) ∧ K.Sat w0 [hd2, gl_18, l_331, g2_324, m_20, g_2, fr] w_) ((fun (k : Nat) => c.th.toNat - k) 0) ?_ ?_
          ·
           exact ⟨0, ld_348, rfl, ⟨by rfl, by rfl, by rfl, by rfl, by rfl, by rfl, by rfl, by rfl, by rfl, by rfl, by rfl, trivial⟩, (by omega), hd_347, hS.pick [0, 1, 2, 3, 4, 5, 6]⟩
          ·
           clear hS
           intro m_350 F_351 w hI
           obtain ⟨k, hd2, rfl, sl_352, p_353, x_354, hS⟩ := hI
           rw [← K.Sl.puts sl_352]; clear sl_352
           refine K.s (K.s (K.g (K.q [.int .i64 ((k : Nat) : Int), .slice (some ⟨r_26, 0, none⟩) c.th.toNat c.th.toNat] ?_)))
           refine K.a (K.QR.len (P := Try.prog) rfl rfl Try.underlying51) ?_
           by_cases h_355 : (((k : Nat) : Int) : Int) < (((c.th.toNat : Nat) : Int) : Int)
           ·
            refine K.y ((((k : Nat) : Int) : Int) < (((c.th.toNat : Nat) : Int) : Int)) h_355 ?_
            refine K.z (K.t (K.h (K.k (K.t (K.s ?_)))))
            refine K.KW.block ?_
            refine K.s ?_
            obtain ⟨h1, hk1⟩ := hs_at (hs := (hs.set tk (⟨(stepE c ((lns c).toNat) (newE 1 ((tk : Nat) : Int)) M).1, true, e'⟩ : HandE))) (t := k) (by omega)
            have hat1 := hI_349.at_ k _ hk1
            obtain ⟨row_356, hA_357, hg_358, hB_359, cs_360, rfl, hcs_361, hall_362, htl_363, hct_364, hel_365, how_366, hcl_367⟩ := x_354.open_ k h1 hk1
            replace hS : K.Sat w0 [row_356, hA_357, hg_358, hB_359, gl_18, l_331, g2_324, m_20, g_2, fr] w := hS.of
            obtain ⟨u2, v2, w2, hce2, hmx2⟩ := hel_365
            rw [hce2] at how_366
            replace hS : K.Sat w0 [row_356, hA_357, hg_358, hB_359, gl_18, l_331, g2_324, m_20, g_2, fr] w := hS.of (by simp [K.pick, K.nth])
            refine K.g (K.q [.slice (some ⟨r_26, 0, none⟩) c.th.toNat c.th.toNat, .int .i64 ((k : Nat) : Int)] ?_)
            refine K.a (K.QR.ix (0 + k * 5) 5 rfl rfl rfl Try.underlying51 (by kernel_rfl) (by omega) (by first | (simp; done) | omega | (simp; omega))) ?_
            refine K.q [.pointer (some ⟨r_26, 0 + k * 5 + 3, none⟩)] ?_
            refine K.d (.bool h1.inn) (K.row_at0 (j := 3) (hS.ownr 0 rfl how_366) hcs_361 hall_362 rfl htl_363 rfl) ?_
            cases hb_368 : h1.inn
            ·
             refine K.q [.bool false] ?_
             refine K.RW.skip rfl (by kernel_rfl) ?_
             refine K.RW.skip rfl (by kernel_rfl) ?_
             refine K.RW.skip rfl (by kernel_rfl) ?_
             refine K.RW.skip rfl (by kernel_rfl) ?_
             refine K.RW.skip rfl (by kernel_rfl) ?_
             refine K.RW.skip rfl (by kernel_rfl) ?_
             refine K.RW.skip rfl (by kernel_rfl) ?_
             refine K.RW.skip rfl (by kernel_rfl) ?_
             refine K.q [.bool false] (K.z (K.t (K.f (K.k ?_))))
             refine K.blk_normal ?_
             refine K.t ?_
             have hd_369 : K.Hands (handEl b_13) 58 5 (row_356 ++ (hA_357 ++ ([hg_358].flatten ++ hB_359))) ((some ⟨r_26, 0, none⟩)) ((hs.set tk (⟨(stepE c ((lns c).toNat) (newE 1 ((tk : Nat) : Int)) M).1, true, e'⟩ : HandE)).set k h1) := hcl_367 _ _ _ [.pointer u2, .pointer v2, .pointer w2, .bool h1.inn, .int .u64 h1.at_] rfl ⟨_, _, _, rfl, by simpa using hmx2⟩ how_366
             replace hS : K.Sat w0 [(row_356 ++ (hA_357 ++ ([hg_358].flatten ++ hB_359))), gl_18, l_331, g2_324, m_20, g_2, fr] w := (hS.pick [0, 1, 2, 3, 4, 5, 6, 7, 8, 9]).of (by simp [K.pick, K.nth])
             generalize (row_356 ++ (hA_357 ++ ([hg_358].flatten ++ hB_359))) = ld_370 at hS hd_369
             rw [K.hs_self hk1] at hd_369
             refine K.g (K.q [.int .i64 ((k : Nat) : Int)] ?_)
             refine K.a (K.QR.n64 ((((k : Nat) : Int) : Int) + (1 : Int)) ((k + 1 : Nat) : Int) (by kernel_rfl) (by omega)) ?_
             refine K.q [.int .i64 ((k + 1 : Nat) : Int)] (K.z (K.t ?_))
             refine ⟨_, ?_, k + 1, ld_370, rfl, ⟨by rfl, by rfl, by rfl, by rfl, by rfl, by rfl, by rfl, by rfl, by rfl, by rfl, by rfl, trivial⟩, (by omega), hd_369, hS.pick [0, 1, 2, 3, 4, 5, 6]⟩
             omega
            ·
             refine K.q [.bool true, .int .u64 e', .slice (some ⟨r_26, 0, none⟩) c.th.toNat c.th.toNat, .int .i64 ((k : Nat) : Int)] ?_
             refine K.a (K.QR.ix (0 + k * 5) 5 rfl rfl rfl Try.underlying51 (by kernel_rfl) (by omega) (by first | (simp; done) | omega | (simp; omega))) ?_
             refine K.q [.pointer (some ⟨r_26, 0 + k * 5 + 4, none⟩)] ?_
             refine K.d (.int .u64 h1.at_) (K.row_at0 (j := 4) (hS.ownr 0 rfl how_366) hcs_361 hall_362 rfl htl_363 rfl) ?_
             refine K.a (K.QR.nu64 ((h1.at_ : Int) + (1 : Int)) ((h1.at_ : Int) + (1 : Int)) (by kernel_rfl) (by have h := hat1 hb_368; omega)) ?_
             refine K.x ((e' : Int) > ((h1.at_ : Int) + (1 : Int) : Int)) (by have h := hat1 hb_368; omega) ?_
             refine K.q [.bool false] (K.z (K.t (K.f (K.k ?_))))
             refine K.blk_normal ?_
             refine K.t ?_
             have hd_371 : K.Hands (handEl b_13) 58 5 (row_356 ++ (hA_357 ++ ([hg_358].flatten ++ hB_359))) ((some ⟨r_26, 0, none⟩)) ((hs.set tk (⟨(stepE c ((lns c).toNat) (newE 1 ((tk : Nat) : Int)) M).1, true, e'⟩ : HandE)).set k h1) := hcl_367 _ _ _ [.pointer u2, .pointer v2, .pointer w2, .bool h1.inn, .int .u64 h1.at_] rfl ⟨_, _, _, rfl, by simpa using hmx2⟩ how_366
             replace hS : K.Sat w0 [(row_356 ++ (hA_357 ++ ([hg_358].flatten ++ hB_359))), gl_18, l_331, g2_324, m_20, g_2, fr] w := (hS.pick [0, 1, 2, 3, 4, 5, 6, 7, 8, 9]).of (by simp [K.pick, K.nth])
             generalize (row_356 ++ (hA_357 ++ ([hg_358].flatten ++ hB_359))) = ld_372 at hS hd_371
             rw [K.hs_self hk1] at hd_371
             refine K.g (K.q [.int .i64 ((k : Nat) : Int)] ?_)
             refine K.a (K.QR.n64 ((((k : Nat) : Int) : Int) + (1 : Int)) ((k + 1 : Nat) : Int) (by kernel_rfl) (by omega)) ?_
             refine K.q [.int .i64 ((k + 1 : Nat) : Int)] (K.z (K.t ?_))
             refine ⟨_, ?_, k + 1, ld_372, rfl, ⟨by rfl, by rfl, by rfl, by rfl, by rfl, by rfl, by rfl, by rfl, by rfl, by rfl, by rfl, trivial⟩, (by omega), hd_371, hS.pick [0, 1, 2, 3, 4, 5, 6]⟩
             omega
           ·
            refine K.x ((((k : Nat) : Int) : Int) < (((c.th.toNat : Nat) : Int) : Int)) h_355 ?_
            refine K.z (K.t (K.f ?_))
            refine K.KW.exit ?_
            refine K.thn_exit ?_
            refine K.thn_exit ?_
            refine K.blk_hit ?_
            refine K.blk_normal ?_
            refine K.t (K.g (K.q [.int .i64 ((j : Nat) : Int)] ?_))
            refine K.a (K.QR.n64 ((((j : Nat) : Int) : Int) + (1 : Int)) ((j + 1 : Nat) : Int) (by kernel_rfl) (by omega)) ?_
            refine K.q [.int .i64 ((j + 1 : Nat) : Int)] (K.z (K.t ?_))
            refine ⟨_, ?_, j + 1, (hs.set tk (⟨(stepE c ((lns c).toNat) (newE 1 ((tk : Nat) : Int)) M).1, true, e'⟩ : HandE)), ((stepE c ((lns c).toNat) (newE 1 ((tk : Nat) : Int)) M).2), e', hd2, l_331, rfl, ⟨by rfl, by rfl, by rfl, by rfl, by rfl, by rfl, by rfl, by rfl, by rfl, trivial⟩, (by omega), (hI_349), x_354, x_333, hS.pick [0, 1, 2, 4, 5, 6]⟩
            omega
         ·
          refine K.q [.bool false, .bool false] (K.z (K.t (K.f (K.k (K.t (K.s (K.g (K.q [.pointer (some ⟨r_26, 0 + tk * 5, none⟩), .bool true, .pointer (some ⟨r_26, 0 + tk * 5, none⟩), .pointer (some ⟨r_26, 0 + tk * 5 + 3, none⟩)] ?_))))))))
          refine K.l (K.OW.grst 5 (0 + tk * 5 + 3) [.bool true] ((cs_43.set tk [.pointer u_319, .pointer v_320, .pointer w_321, .bool true, .int .u64 h0.at_]).flatten) hS o_329 ?_ (by show _ + 1 ≤ _; omega) (K.set_at0 (j := 3) hcs_44 hall_45 rfl htl_46 (Nat.le_of_ble_eq_true rfl) rfl))
          clear hS; intro w l_373 o_374 hS
          replace hS : K.Sat w0 [gl_18, l_331, g_330, g2_324, hg_41, l_373, hA_40, hB_42, m_20, g_2, fr] w := hS
          refine K.z (K.t (K.s ?_))
          have hd_375 : K.Hands (handEl b_13) 58 5 (l_373 ++ (hA_40 ++ ([g_330].flatten ++ hB_42))) ((some ⟨r_26, 0, none⟩)) (hs.set tk (⟨(stepE c ((lns c).toNat) (newE 1 ((tk : Nat) : Int)) M).1, true, h0.at_⟩ : HandE)) := hcl_50 _ _ _ [.pointer u_319, .pointer v_320, .pointer w_321, .bool true, .int .u64 h0.at_] rfl ⟨_, _, _, rfl, by simpa using h_332⟩ o_374
          replace hS : K.Sat w0 [(l_373 ++ (hA_40 ++ ([g_330].flatten ++ hB_42))), gl_18, l_331, g2_324, m_20, g_2, fr] w := (hS.pick [5, 6, 2, 7, 0, 1, 3, 8, 9, 10]).of (by simp [K.pick, K.nth])
          generalize (l_373 ++ (hA_40 ++ ([g_330].flatten ++ hB_42))) = ld_376 at hS hd_375
          have hI_377 : HInv c (lns c).toNat (hs.set tk (⟨(stepE c ((lns c).toNat) (newE 1 ((tk : Nat) : Int)) M).1, true, h0.at_⟩ : HandE)) (stepE c ((lns c).toNat) (newE 1 ((tk : Nat) : Int)) M).2 e' (j + 1) := by have h := hnext true hin'; rwa [if_neg (fun h => by rw [hb_342] at h; cases h.2)] at h
          have hlen2 := hI_377.len
          have heb2 := hI_377.eb
          refine K.g (K.q [.int .i64 0] (K.z (K.t ?_)))
          refine K.KW.block ?_
          refine K.KW.loop (fun m_ F_ w_ => ∃ (k : Nat) (hd2 : K.Cs), m_ = c.th.toNat - k ∧ K.Sl F_ [(0, .agg #[.int .i64 c.th, .int .i64 c.sl, .int .i64 c.lo, .int .i64 c.bu]), (1, .slice (some ⟨b_37, of_38, none⟩) xs.length cap), (2, .pointer (some ⟨r_1, 0, none⟩)), (5, .pointer (some ⟨b_13, 0, none⟩)), (6, .pointer (some ⟨p_14, 0, none⟩)), (8, .bool true), (9, .slice (some ⟨r_26, 0, none⟩) c.th.toNat c.th.toNat), (10, .int .i64 ((j : Nat) : Int)), (14, .int .u64 e'), (18, .int .i64 ((k : Nat) : Int)), (148, undef)] ∧ k ≤ c.th.toNat ∧ K.Hands (handEl b_13) 58 5 hd2 ((some ⟨r_26, 0, none⟩)) (hs.set tk (⟨(stepE c ((lns c).toNat) (newE 1 ((tk : Nat) : Int)) M).1, true, h0.at_⟩ : HandE)) ∧ K.Sat w0 [hd2, gl_18, l_331, g2_324, m_20, g_2, fr] w_) ((fun (k : Nat) => c.th.toNat - k) 0) ?_ ?_
          ·
           exact ⟨0, ld_376, rfl, ⟨by rfl, by rfl, by rfl, by rfl, by rfl, by rfl, by rfl, by rfl, by rfl, by rfl, by rfl, trivial⟩, (by omega), hd_375, hS.pick [0, 1, 2, 3, 4, 5, 6]⟩
          ·
           clear hS
           intro m_378 F_379 w hI
           obtain ⟨k, hd2, rfl, sl_380, p_381, x_382, hS⟩ := hI
           rw [← K.Sl.puts sl_380]; clear sl_380
           refine K.s (K.s (K.g (K.q [.int .i64 ((k : Nat) : Int), .slice (some ⟨r_26, 0, none⟩) c.th.toNat c.th.toNat] ?_)))
           refine K.a (K.QR.len (P := Try.prog) rfl rfl Try.underlying51) ?_
           by_cases h_383 : (((k : Nat) : Int) : Int) < (((c.th.toNat : Nat) : Int) : Int)
           ·
            refine K.y ((((k : Nat) : Int) : Int) < (((c.th.toNat : Nat) : Int) : Int)) h_383 ?_
            refine K.z (K.t (K.h (K.k (K.t (K.s ?_)))))
            refine K.KW.block ?_
            refine K.s ?_
            obtain ⟨h1, hk1⟩ := hs_at (hs := (hs.set tk (⟨(stepE c ((lns c).toNat) (newE 1 ((tk : Nat) : Int)) M).1, true, h0.at_⟩ : HandE))) (t := k) (by omega)
            have hat1 := hI_377.at_ k _ hk1
            obtain ⟨row_384, hA_385, hg_386, hB_387, cs_388, rfl, hcs_389, hall_390, htl_391, hct_392, hel_393, how_394, hcl_395⟩ := x_382.open_ k h1 hk1
            replace hS : K.Sat w0 [row_384, hA_385, hg_386, hB_387, gl_18, l_331, g2_324, m_20, g_2, fr] w := hS.of
            obtain ⟨u2, v2, w2, hce2, hmx2⟩ := hel_393
            rw [hce2] at how_394
            replace hS : K.Sat w0 [row_384, hA_385, hg_386, hB_387, gl_18, l_331, g2_324, m_20, g_2, fr] w := hS.of (by simp [K.pick, K.nth])
            refine K.g (K.q [.slice (some ⟨r_26, 0, none⟩) c.th.toNat c.th.toNat, .int .i64 ((k : Nat) : Int)] ?_)
            refine K.a (K.QR.ix (0 + k * 5) 5 rfl rfl rfl Try.underlying51 (by kernel_rfl) (by omega) (by first | (simp; done) | omega | (simp; omega))) ?_
            refine K.q [.pointer (some ⟨r_26, 0 + k * 5 + 3, none⟩)] ?_
            refine K.d (.bool h1.inn) (K.row_at0 (j := 3) (hS.ownr 0 rfl how_394) hcs_389 hall_390 rfl htl_391 rfl) ?_
            cases hb_396 : h1.inn
            ·
             refine K.q [.bool false] ?_
             refine K.RW.skip rfl (by kernel_rfl) ?_
             refine K.RW.skip rfl (by kernel_rfl) ?_
             refine K.RW.skip rfl (by kernel_rfl) ?_
             refine K.RW.skip rfl (by kernel_rfl) ?_
             refine K.RW.skip rfl (by kernel_rfl) ?_
             refine K.RW.skip rfl (by kernel_rfl) ?_
             refine K.RW.skip rfl (by kernel_rfl) ?_
             refine K.RW.skip rfl (by kernel_rfl) ?_
             refine K.q [.bool false] (K.z (K.t (K.f (K.k ?_))))
             refine K.blk_normal ?_
             refine K.t ?_
             have hd_397 : K.Hands (handEl b_13) 58 5 (row_384 ++ (hA_385 ++ ([hg_386].flatten ++ hB_387))) ((some ⟨r_26, 0, none⟩)) ((hs.set tk (⟨(stepE c ((lns c).toNat) (newE 1 ((tk : Nat) : Int)) M).1, true, h0.at_⟩ : HandE)).set k h1) := hcl_395 _ _ _ [.pointer u2, .pointer v2, .pointer w2, .bool h1.inn, .int .u64 h1.at_] rfl ⟨_, _, _, rfl, by simpa using hmx2⟩ how_394
             replace hS : K.Sat w0 [(row_384 ++ (hA_385 ++ ([hg_386].flatten ++ hB_387))), gl_18, l_331, g2_324, m_20, g_2, fr] w := (hS.pick [0, 1, 2, 3, 4, 5, 6, 7, 8, 9]).of (by simp [K.pick, K.nth])
             generalize (row_384 ++ (hA_385 ++ ([hg_386].flatten ++ hB_387))) = ld_398 at hS hd_397
             rw [K.hs_self hk1] at hd_397
             refine K.g (K.q [.int .i64 ((k : Nat) : Int)] ?_)
             refine K.a (K.QR.n64 ((((k : Nat) : Int) : Int) + (1 : Int)) ((k + 1 : Nat) : Int) (by kernel_rfl) (by omega)) ?_
             refine K.q [.int .i64 ((k + 1 : Nat) : Int)] (K.z (K.t ?_))
             refine ⟨_, ?_, k + 1, ld_398, rfl, ⟨by rfl, by rfl, by rfl, by rfl, by rfl, by rfl, by rfl, by rfl, by rfl, by rfl, by rfl, trivial⟩, (by omega), hd_397, hS.pick [0, 1, 2, 3, 4, 5, 6]⟩
             omega
            ·
             refine K.q [.bool true, .int .u64 e', .slice (some ⟨r_26, 0, none⟩) c.th.toNat c.th.toNat, .int .i64 ((k : Nat) : Int)] ?_
             refine K.a (K.QR.ix (0 + k * 5) 5 rfl rfl rfl Try.underlying51 (by kernel_rfl) (by omega) (by first | (simp; done) | omega | (simp; omega))) ?_
             refine K.q [.pointer (some ⟨r_26, 0 + k * 5 + 4, none⟩)] ?_
             refine K.d (.int .u64 h1.at_) (K.row_at0 (j := 4) (hS.ownr 0 rfl how_394) hcs_389 hall_390 rfl htl_391 rfl) ?_
             refine K.a (K.QR.nu64 ((h1.at_ : Int) + (1 : Int)) ((h1.at_ : Int) + (1 : Int)) (by kernel_rfl) (by have h := hat1 hb_396; omega)) ?_
             refine K.x ((e' : Int) > ((h1.at_ : Int) + (1 : Int) : Int)) (by have h := hat1 hb_396; omega) ?_
             refine K.q [.bool false] (K.z (K.t (K.f (K.k ?_))))
             refine K.blk_normal ?_
             refine K.t ?_
             have hd_399 : K.Hands (handEl b_13) 58 5 (row_384 ++ (hA_385 ++ ([hg_386].flatten ++ hB_387))) ((some ⟨r_26, 0, none⟩)) ((hs.set tk (⟨(stepE c ((lns c).toNat) (newE 1 ((tk : Nat) : Int)) M).1, true, h0.at_⟩ : HandE)).set k h1) := hcl_395 _ _ _ [.pointer u2, .pointer v2, .pointer w2, .bool h1.inn, .int .u64 h1.at_] rfl ⟨_, _, _, rfl, by simpa using hmx2⟩ how_394
             replace hS : K.Sat w0 [(row_384 ++ (hA_385 ++ ([hg_386].flatten ++ hB_387))), gl_18, l_331, g2_324, m_20, g_2, fr] w := (hS.pick [0, 1, 2, 3, 4, 5, 6, 7, 8, 9]).of (by simp [K.pick, K.nth])
             generalize (row_384 ++ (hA_385 ++ ([hg_386].flatten ++ hB_387))) = ld_400 at hS hd_399
             rw [K.hs_self hk1] at hd_399
             refine K.g (K.q [.int .i64 ((k : Nat) : Int)] ?_)
             refine K.a (K.QR.n64 ((((k : Nat) : Int) : Int) + (1 : Int)) ((k + 1 : Nat) : Int) (by kernel_rfl) (by omega)) ?_
             refine K.q [.int .i64 ((k + 1 : Nat) : Int)] (K.z (K.t ?_))
             refine ⟨_, ?_, k + 1, ld_400, rfl, ⟨by rfl, by rfl, by rfl, by rfl, by rfl, by rfl, by rfl, by rfl, by rfl, by rfl, by rfl, trivial⟩, (by omega), hd_399, hS.pick [0, 1, 2, 3, 4, 5, 6]⟩
             omega
           ·
            refine K.x ((((k : Nat) : Int) : Int) < (((c.th.toNat : Nat) : Int) : Int)) h_383 ?_
            refine K.z (K.t (K.f ?_))
            refine K.KW.exit ?_
            refine K.thn_exit ?_
            refine K.thn_exit ?_
            refine K.blk_hit ?_
            refine K.blk_normal ?_
            refine K.t (K.g (K.q [.int .i64 ((j : Nat) : Int)] ?_))
            refine K.a (K.QR.n64 ((((j : Nat) : Int) : Int) + (1 : Int)) ((j + 1 : Nat) : Int) (by kernel_rfl) (by omega)) ?_
            refine K.q [.int .i64 ((j + 1 : Nat) : Int)] (K.z (K.t ?_))
            refine ⟨_, ?_, j + 1, (hs.set tk (⟨(stepE c ((lns c).toNat) (newE 1 ((tk : Nat) : Int)) M).1, true, h0.at_⟩ : HandE)), ((stepE c ((lns c).toNat) (newE 1 ((tk : Nat) : Int)) M).2), e', hd2, l_331, rfl, ⟨by rfl, by rfl, by rfl, by rfl, by rfl, by rfl, by rfl, by rfl, by rfl, trivial⟩, (by omega), (hI_377), x_382, x_333, hS.pick [0, 1, 2, 4, 5, 6]⟩
            omega
        ·
         replace hS : K.Sat w0 [gl_18, l_331, g_330, g2_324, hg_41, l_328, hA_40, hB_42, m_20, g_2, fr] w := hS
         have hin' : (false = true ↔ annW (lns c).toNat (stepE c ((lns c).toNat) (newE 1 ((tk : Nat) : Int)) M).2 tk ≠ 0) := by unfold annW; rw [← ann_at (c := c) (by omega), h_339]; simp
         refine K.q [.tuple #[.int .u64 0, .bool false], .int .u64 0, .bool false, .int .u64 0, .bool false] (K.z (K.t (K.s (K.s (K.g (K.q [.bool false, .bool false] ?_))))))
         refine K.RW.skip rfl (by kernel_rfl) ?_
         refine K.RW.skip rfl (by kernel_rfl) ?_
         refine K.RW.skip rfl (by kernel_rfl) ?_
         refine K.RW.skip rfl (by kernel_rfl) ?_
         refine K.RW.skip rfl (by kernel_rfl) ?_
         refine K.q [.bool false] (K.z (K.t (K.f (K.k (K.t (K.s (K.g (K.q [.pointer (some ⟨r_26, 0 + tk * 5, none⟩), .bool false, .pointer (some ⟨r_26, 0 + tk * 5, none⟩), .pointer (some ⟨r_26, 0 + tk * 5 + 3, none⟩)] ?_))))))))
         refine K.l (K.OW.grst 5 (0 + tk * 5 + 3) [.bool false] ((cs_43.set tk [.pointer u_319, .pointer v_320, .pointer w_321, .bool false, .int .u64 h0.at_]).flatten) hS o_329 ?_ (by show _ + 1 ≤ _; omega) (K.set_at0 (j := 3) hcs_44 hall_45 rfl htl_46 (Nat.le_of_ble_eq_true rfl) rfl))
         clear hS; intro w l_401 o_402 hS
         replace hS : K.Sat w0 [gl_18, l_331, g_330, g2_324, hg_41, l_401, hA_40, hB_42, m_20, g_2, fr] w := hS
         refine K.z (K.t (K.s ?_))
         have hd_403 : K.Hands (handEl b_13) 58 5 (l_401 ++ (hA_40 ++ ([g_330].flatten ++ hB_42))) ((some ⟨r_26, 0, none⟩)) (hs.set tk (⟨(stepE c ((lns c).toNat) (newE 1 ((tk : Nat) : Int)) M).1, false, h0.at_⟩ : HandE)) := hcl_50 _ _ _ [.pointer u_319, .pointer v_320, .pointer w_321, .bool false, .int .u64 h0.at_] rfl ⟨_, _, _, rfl, by simpa using h_332⟩ o_402
         replace hS : K.Sat w0 [(l_401 ++ (hA_40 ++ ([g_330].flatten ++ hB_42))), gl_18, l_331, g2_324, m_20, g_2, fr] w := (hS.pick [5, 6, 2, 7, 0, 1, 3, 8, 9, 10]).of (by simp [K.pick, K.nth])
         generalize (l_401 ++ (hA_40 ++ ([g_330].flatten ++ hB_42))) = ld_404 at hS hd_403
         have hI_405 : HInv c (lns c).toNat (hs.set tk (⟨(stepE c ((lns c).toNat) (newE 1 ((tk : Nat) : Int)) M).1, false, h0.at_⟩ : HandE)) (stepE c ((lns c).toNat) (newE 1 ((tk : Nat) : Int)) M).2 e' (j + 1) := by have h := hnext false hin'; rwa [if_neg (fun h => by cases h.1)] at h
         have hlen2 := hI_405.len
         have heb2 := hI_405.eb
         refine K.g (K.q [.int .i64 0] (K.z (K.t ?_)))
         refine K.KW.block ?_
         refine K.KW.loop (fun m_ F_ w_ => ∃ (k : Nat) (hd2 : K.Cs), m_ = c.th.toNat - k ∧ K.Sl F_ [(0, .agg #[.int .i64 c.th, .int .i64 c.sl, .int .i64 c.lo, .int .i64 c.bu]), (1, .slice (some ⟨b_37, of_38, none⟩) xs.length cap), (2, .pointer (some ⟨r_1, 0, none⟩)), (5, .pointer (some ⟨b_13, 0, none⟩)), (6, .pointer (some ⟨p_14, 0, none⟩)), (8, .bool true), (9, .slice (some ⟨r_26, 0, none⟩) c.th.toNat c.th.toNat), (10, .int .i64 ((j : Nat) : Int)), (14, .int .u64 e'), (18, .int .i64 ((k : Nat) : Int)), (148, undef)] ∧ k ≤ c.th.toNat ∧ K.Hands (handEl b_13) 58 5 hd2 ((some ⟨r_26, 0, none⟩)) (hs.set tk (⟨(stepE c ((lns c).toNat) (newE 1 ((tk : Nat) : Int)) M).1, false, h0.at_⟩ : HandE)) ∧ K.Sat w0 [hd2, gl_18, l_331, g2_324, m_20, g_2, fr] w_) ((fun (k : Nat) => c.th.toNat - k) 0) ?_ ?_
         ·
          exact ⟨0, ld_404, rfl, ⟨by rfl, by rfl, by rfl, by rfl, by rfl, by rfl, by rfl, by rfl, by rfl, by rfl, by rfl, trivial⟩, (by omega), hd_403, hS.pick [0, 1, 2, 3, 4, 5, 6]⟩
         ·
          clear hS
          intro m_406 F_407 w hI
          obtain ⟨k, hd2, rfl, sl_408, p_409, x_410, hS⟩ := hI
          rw [← K.Sl.puts sl_408]; clear sl_408
          refine K.s (K.s (K.g (K.q [.int .i64 ((k : Nat) : Int), .slice (some ⟨r_26, 0, none⟩) c.th.toNat c.th.toNat] ?_)))
          refine K.a (K.QR.len (P := Try.prog) rfl rfl Try.underlying51) ?_
          by_cases h_411 : (((k : Nat) : Int) : Int) < (((c.th.toNat : Nat) : Int) : Int)
          ·
           refine K.y ((((k : Nat) : Int) : Int) < (((c.th.toNat : Nat) : Int) : Int)) h_411 ?_
           refine K.z (K.t (K.h (K.k (K.t (K.s ?_)))))
           refine K.KW.block ?_
           refine K.s ?_
           obtain ⟨h1, hk1⟩ := hs_at (hs := (hs.set tk (⟨(stepE c ((lns c).toNat) (newE 1 ((tk : Nat) : Int)) M).1, false, h0.at_⟩ : HandE))) (t := k) (by omega)
           have hat1 := hI_405.at_ k _ hk1
           obtain ⟨row_412, hA_413, hg_414, hB_415, cs_416, rfl, hcs_417, hall_418, htl_419, hct_420, hel_421, how_422, hcl_423⟩ := x_410.open_ k h1 hk1
           replace hS : K.Sat w0 [row_412, hA_413, hg_414, hB_415, gl_18, l_331, g2_324, m_20, g_2, fr] w := hS.of
           obtain ⟨u2, v2, w2, hce2, hmx2⟩ := hel_421
           rw [hce2] at how_422
           replace hS : K.Sat w0 [row_412, hA_413, hg_414, hB_415, gl_18, l_331, g2_324, m_20, g_2, fr] w := hS.of (by simp [K.pick, K.nth])
           refine K.g (K.q [.slice (some ⟨r_26, 0, none⟩) c.th.toNat c.th.toNat, .int .i64 ((k : Nat) : Int)] ?_)
           refine K.a (K.QR.ix (0 + k * 5) 5 rfl rfl rfl Try.underlying51 (by kernel_rfl) (by omega) (by first | (simp; done) | omega | (simp; omega))) ?_
           refine K.q [.pointer (some ⟨r_26, 0 + k * 5 + 3, none⟩)] ?_
           refine K.d (.bool h1.inn) (K.row_at0 (j := 3) (hS.ownr 0 rfl how_422) hcs_417 hall_418 rfl htl_419 rfl) ?_
           cases hb_424 : h1.inn
           ·
            refine K.q [.bool false] ?_
            refine K.RW.skip rfl (by kernel_rfl) ?_
            refine K.RW.skip rfl (by kernel_rfl) ?_
            refine K.RW.skip rfl (by kernel_rfl) ?_
            refine K.RW.skip rfl (by kernel_rfl) ?_
            refine K.RW.skip rfl (by kernel_rfl) ?_
            refine K.RW.skip rfl (by kernel_rfl) ?_
            refine K.RW.skip rfl (by kernel_rfl) ?_
            refine K.RW.skip rfl (by kernel_rfl) ?_
            refine K.q [.bool false] (K.z (K.t (K.f (K.k ?_))))
            refine K.blk_normal ?_
            refine K.t ?_
            have hd_425 : K.Hands (handEl b_13) 58 5 (row_412 ++ (hA_413 ++ ([hg_414].flatten ++ hB_415))) ((some ⟨r_26, 0, none⟩)) ((hs.set tk (⟨(stepE c ((lns c).toNat) (newE 1 ((tk : Nat) : Int)) M).1, false, h0.at_⟩ : HandE)).set k h1) := hcl_423 _ _ _ [.pointer u2, .pointer v2, .pointer w2, .bool h1.inn, .int .u64 h1.at_] rfl ⟨_, _, _, rfl, by simpa using hmx2⟩ how_422
            replace hS : K.Sat w0 [(row_412 ++ (hA_413 ++ ([hg_414].flatten ++ hB_415))), gl_18, l_331, g2_324, m_20, g_2, fr] w := (hS.pick [0, 1, 2, 3, 4, 5, 6, 7, 8, 9]).of (by simp [K.pick, K.nth])
            generalize (row_412 ++ (hA_413 ++ ([hg_414].flatten ++ hB_415))) = ld_426 at hS hd_425
            rw [K.hs_self hk1] at hd_425
            refine K.g (K.q [.int .i64 ((k : Nat) : Int)] ?_)
            refine K.a (K.QR.n64 ((((k : Nat) : Int) : Int) + (1 : Int)) ((k + 1 : Nat) : Int) (by kernel_rfl) (by omega)) ?_
            refine K.q [.int .i64 ((k + 1 : Nat) : Int)] (K.z (K.t ?_))
            refine ⟨_, ?_, k + 1, ld_426, rfl, ⟨by rfl, by rfl, by rfl, by rfl, by rfl, by rfl, by rfl, by rfl, by rfl, by rfl, by rfl, trivial⟩, (by omega), hd_425, hS.pick [0, 1, 2, 3, 4, 5, 6]⟩
            omega
           ·
            refine K.q [.bool true, .int .u64 e', .slice (some ⟨r_26, 0, none⟩) c.th.toNat c.th.toNat, .int .i64 ((k : Nat) : Int)] ?_
            refine K.a (K.QR.ix (0 + k * 5) 5 rfl rfl rfl Try.underlying51 (by kernel_rfl) (by omega) (by first | (simp; done) | omega | (simp; omega))) ?_
            refine K.q [.pointer (some ⟨r_26, 0 + k * 5 + 4, none⟩)] ?_
            refine K.d (.int .u64 h1.at_) (K.row_at0 (j := 4) (hS.ownr 0 rfl how_422) hcs_417 hall_418 rfl htl_419 rfl) ?_
            refine K.a (K.QR.nu64 ((h1.at_ : Int) + (1 : Int)) ((h1.at_ : Int) + (1 : Int)) (by kernel_rfl) (by have h := hat1 hb_424; omega)) ?_
            refine K.x ((e' : Int) > ((h1.at_ : Int) + (1 : Int) : Int)) (by have h := hat1 hb_424; omega) ?_
            refine K.q [.bool false] (K.z (K.t (K.f (K.k ?_))))
            refine K.blk_normal ?_
            refine K.t ?_
            have hd_427 : K.Hands (handEl b_13) 58 5 (row_412 ++ (hA_413 ++ ([hg_414].flatten ++ hB_415))) ((some ⟨r_26, 0, none⟩)) ((hs.set tk (⟨(stepE c ((lns c).toNat) (newE 1 ((tk : Nat) : Int)) M).1, false, h0.at_⟩ : HandE)).set k h1) := hcl_423 _ _ _ [.pointer u2, .pointer v2, .pointer w2, .bool h1.inn, .int .u64 h1.at_] rfl ⟨_, _, _, rfl, by simpa using hmx2⟩ how_422
            replace hS : K.Sat w0 [(row_412 ++ (hA_413 ++ ([hg_414].flatten ++ hB_415))), gl_18, l_331, g2_324, m_20, g_2, fr] w := (hS.pick [0, 1, 2, 3, 4, 5, 6, 7, 8, 9]).of (by simp [K.pick, K.nth])
            generalize (row_412 ++ (hA_413 ++ ([hg_414].flatten ++ hB_415))) = ld_428 at hS hd_427
            rw [K.hs_self hk1] at hd_427
            refine K.g (K.q [.int .i64 ((k : Nat) : Int)] ?_)
            refine K.a (K.QR.n64 ((((k : Nat) : Int) : Int) + (1 : Int)) ((k + 1 : Nat) : Int) (by kernel_rfl) (by omega)) ?_
            refine K.q [.int .i64 ((k + 1 : Nat) : Int)] (K.z (K.t ?_))
            refine ⟨_, ?_, k + 1, ld_428, rfl, ⟨by rfl, by rfl, by rfl, by rfl, by rfl, by rfl, by rfl, by rfl, by rfl, by rfl, by rfl, trivial⟩, (by omega), hd_427, hS.pick [0, 1, 2, 3, 4, 5, 6]⟩
            omega
          ·
           refine K.x ((((k : Nat) : Int) : Int) < (((c.th.toNat : Nat) : Int) : Int)) h_411 ?_
           refine K.z (K.t (K.f ?_))
           refine K.KW.exit ?_
           refine K.thn_exit ?_
           refine K.thn_exit ?_
           refine K.blk_hit ?_
           refine K.blk_normal ?_
           refine K.t (K.g (K.q [.int .i64 ((j : Nat) : Int)] ?_))
           refine K.a (K.QR.n64 ((((j : Nat) : Int) : Int) + (1 : Int)) ((j + 1 : Nat) : Int) (by kernel_rfl) (by omega)) ?_
           refine K.q [.int .i64 ((j + 1 : Nat) : Int)] (K.z (K.t ?_))
           refine ⟨_, ?_, j + 1, (hs.set tk (⟨(stepE c ((lns c).toNat) (newE 1 ((tk : Nat) : Int)) M).1, false, h0.at_⟩ : HandE)), ((stepE c ((lns c).toNat) (newE 1 ((tk : Nat) : Int)) M).2), e', hd2, l_331, rfl, ⟨by rfl, by rfl, by rfl, by rfl, by rfl, by rfl, by rfl, by rfl, by rfl, trivial⟩, (by omega), (hI_405), x_410, x_333, hS.pick [0, 1, 2, 4, 5, 6]⟩
           omega
        ·
         replace hS : K.Sat w0 [gl_18, l_331, g_330, g2_324, hg_41, l_328, hA_40, hB_42, m_20, g_2, fr] w := hS
         have hin' : (false = true ↔ annW (lns c).toNat (stepE c ((lns c).toNat) (newE 1 ((tk : Nat) : Int)) M).2 tk ≠ 0) := by unfold annW; rw [← ann_at (c := c) (by omega), h_340]; simp
         refine K.q [.tuple #[.int .u64 0, .bool false], .int .u64 0, .bool false, .int .u64 0, .bool false] (K.z (K.t (K.s (K.s (K.g (K.q [.bool false, .bool false] ?_))))))
         refine K.RW.skip rfl (by kernel_rfl) ?_
         refine K.RW.skip rfl (by kernel_rfl) ?_
         refine K.RW.skip rfl (by kernel_rfl) ?_
         refine K.RW.skip rfl (by kernel_rfl) ?_
         refine K.RW.skip rfl (by kernel_rfl) ?_
         refine K.q [.bool false] (K.z (K.t (K.f (K.k (K.t (K.s (K.g (K.q [.pointer (some ⟨r_26, 0 + tk * 5, none⟩), .bool false, .pointer (some ⟨r_26, 0 + tk * 5, none⟩), .pointer (some ⟨r_26, 0 + tk * 5 + 3, none⟩)] ?_))))))))
         refine K.l (K.OW.grst 5 (0 + tk * 5 + 3) [.bool false] ((cs_43.set tk [.pointer u_319, .pointer v_320, .pointer w_321, .bool false, .int .u64 h0.at_]).flatten) hS o_329 ?_ (by show _ + 1 ≤ _; omega) (K.set_at0 (j := 3) hcs_44 hall_45 rfl htl_46 (Nat.le_of_ble_eq_true rfl) rfl))
         clear hS; intro w l_429 o_430 hS
         replace hS : K.Sat w0 [gl_18, l_331, g_330, g2_324, hg_41, l_429, hA_40, hB_42, m_20, g_2, fr] w := hS
         refine K.z (K.t (K.s ?_))
         have hd_431 : K.Hands (handEl b_13) 58 5 (l_429 ++ (hA_40 ++ ([g_330].flatten ++ hB_42))) ((some ⟨r_26, 0, none⟩)) (hs.set tk (⟨(stepE c ((lns c).toNat) (newE 1 ((tk : Nat) : Int)) M).1, false, h0.at_⟩ : HandE)) := hcl_50 _ _ _ [.pointer u_319, .pointer v_320, .pointer w_321, .bool false, .int .u64 h0.at_] rfl ⟨_, _, _, rfl, by simpa using h_332⟩ o_430
         replace hS : K.Sat w0 [(l_429 ++ (hA_40 ++ ([g_330].flatten ++ hB_42))), gl_18, l_331, g2_324, m_20, g_2, fr] w := (hS.pick [5, 6, 2, 7, 0, 1, 3, 8, 9, 10]).of (by simp [K.pick, K.nth])
         generalize (l_429 ++ (hA_40 ++ ([g_330].flatten ++ hB_42))) = ld_432 at hS hd_431
         have hI_433 : HInv c (lns c).toNat (hs.set tk (⟨(stepE c ((lns c).toNat) (newE 1 ((tk : Nat) : Int)) M).1, false, h0.at_⟩ : HandE)) (stepE c ((lns c).toNat) (newE 1 ((tk : Nat) : Int)) M).2 e' (j + 1) := by have h := hnext false hin'; rwa [if_neg (fun h => by cases h.1)] at h
         have hlen2 := hI_433.len
         have heb2 := hI_433.eb
         refine K.g (K.q [.int .i64 0] (K.z (K.t ?_)))
         refine K.KW.block ?_
         refine K.KW.loop (fun m_ F_ w_ => ∃ (k : Nat) (hd2 : K.Cs), m_ = c.th.toNat - k ∧ K.Sl F_ [(0, .agg #[.int .i64 c.th, .int .i64 c.sl, .int .i64 c.lo, .int .i64 c.bu]), (1, .slice (some ⟨b_37, of_38, none⟩) xs.length cap), (2, .pointer (some ⟨r_1, 0, none⟩)), (5, .pointer (some ⟨b_13, 0, none⟩)), (6, .pointer (some ⟨p_14, 0, none⟩)), (8, .bool true), (9, .slice (some ⟨r_26, 0, none⟩) c.th.toNat c.th.toNat), (10, .int .i64 ((j : Nat) : Int)), (14, .int .u64 e'), (18, .int .i64 ((k : Nat) : Int)), (148, undef)] ∧ k ≤ c.th.toNat ∧ K.Hands (handEl b_13) 58 5 hd2 ((some ⟨r_26, 0, none⟩)) (hs.set tk (⟨(stepE c ((lns c).toNat) (newE 1 ((tk : Nat) : Int)) M).1, false, h0.at_⟩ : HandE)) ∧ K.Sat w0 [hd2, gl_18, l_331, g2_324, m_20, g_2, fr] w_) ((fun (k : Nat) => c.th.toNat - k) 0) ?_ ?_
         ·
          exact ⟨0, ld_432, rfl, ⟨by rfl, by rfl, by rfl, by rfl, by rfl, by rfl, by rfl, by rfl, by rfl, by rfl, by rfl, trivial⟩, (by omega), hd_431, hS.pick [0, 1, 2, 3, 4, 5, 6]⟩
         ·
          clear hS
          intro m_434 F_435 w hI
          obtain ⟨k, hd2, rfl, sl_436, p_437, x_438, hS⟩ := hI
          rw [← K.Sl.puts sl_436]; clear sl_436
          refine K.s (K.s (K.g (K.q [.int .i64 ((k : Nat) : Int), .slice (some ⟨r_26, 0, none⟩) c.th.toNat c.th.toNat] ?_)))
          refine K.a (K.QR.len (P := Try.prog) rfl rfl Try.underlying51) ?_
          by_cases h_439 : (((k : Nat) : Int) : Int) < (((c.th.toNat : Nat) : Int) : Int)
          ·
           refine K.y ((((k : Nat) : Int) : Int) < (((c.th.toNat : Nat) : Int) : Int)) h_439 ?_
           refine K.z (K.t (K.h (K.k (K.t (K.s ?_)))))
           refine K.KW.block ?_
           refine K.s ?_
           obtain ⟨h1, hk1⟩ := hs_at (hs := (hs.set tk (⟨(stepE c ((lns c).toNat) (newE 1 ((tk : Nat) : Int)) M).1, false, h0.at_⟩ : HandE))) (t := k) (by omega)
           have hat1 := hI_433.at_ k _ hk1
           obtain ⟨row_440, hA_441, hg_442, hB_443, cs_444, rfl, hcs_445, hall_446, htl_447, hct_448, hel_449, how_450, hcl_451⟩ := x_438.open_ k h1 hk1
           replace hS : K.Sat w0 [row_440, hA_441, hg_442, hB_443, gl_18, l_331, g2_324, m_20, g_2, fr] w := hS.of
           obtain ⟨u2, v2, w2, hce2, hmx2⟩ := hel_449
           rw [hce2] at how_450
           replace hS : K.Sat w0 [row_440, hA_441, hg_442, hB_443, gl_18, l_331, g2_324, m_20, g_2, fr] w := hS.of (by simp [K.pick, K.nth])
           refine K.g (K.q [.slice (some ⟨r_26, 0, none⟩) c.th.toNat c.th.toNat, .int .i64 ((k : Nat) : Int)] ?_)
           refine K.a (K.QR.ix (0 + k * 5) 5 rfl rfl rfl Try.underlying51 (by kernel_rfl) (by omega) (by first | (simp; done) | omega | (simp; omega))) ?_
           refine K.q [.pointer (some ⟨r_26, 0 + k * 5 + 3, none⟩)] ?_
           refine K.d (.bool h1.inn) (K.row_at0 (j := 3) (hS.ownr 0 rfl how_450) hcs_445 hall_446 rfl htl_447 rfl) ?_
           cases hb_452 : h1.inn
           ·
            refine K.q [.bool false] ?_
            refine K.RW.skip rfl (by kernel_rfl) ?_
            refine K.RW.skip rfl (by kernel_rfl) ?_
            refine K.RW.skip rfl (by kernel_rfl) ?_
            refine K.RW.skip rfl (by kernel_rfl) ?_
            refine K.RW.skip rfl (by kernel_rfl) ?_
            refine K.RW.skip rfl (by kernel_rfl) ?_
            refine K.RW.skip rfl (by kernel_rfl) ?_
            refine K.RW.skip rfl (by kernel_rfl) ?_
            refine K.q [.bool false] (K.z (K.t (K.f (K.k ?_))))
            refine K.blk_normal ?_
            refine K.t ?_
            have hd_453 : K.Hands (handEl b_13) 58 5 (row_440 ++ (hA_441 ++ ([hg_442].flatten ++ hB_443))) ((some ⟨r_26, 0, none⟩)) ((hs.set tk (⟨(stepE c ((lns c).toNat) (newE 1 ((tk : Nat) : Int)) M).1, false, h0.at_⟩ : HandE)).set k h1) := hcl_451 _ _ _ [.pointer u2, .pointer v2, .pointer w2, .bool h1.inn, .int .u64 h1.at_] rfl ⟨_, _, _, rfl, by simpa using hmx2⟩ how_450
            replace hS : K.Sat w0 [(row_440 ++ (hA_441 ++ ([hg_442].flatten ++ hB_443))), gl_18, l_331, g2_324, m_20, g_2, fr] w := (hS.pick [0, 1, 2, 3, 4, 5, 6, 7, 8, 9]).of (by simp [K.pick, K.nth])
            generalize (row_440 ++ (hA_441 ++ ([hg_442].flatten ++ hB_443))) = ld_454 at hS hd_453
            rw [K.hs_self hk1] at hd_453
            refine K.g (K.q [.int .i64 ((k : Nat) : Int)] ?_)
            refine K.a (K.QR.n64 ((((k : Nat) : Int) : Int) + (1 : Int)) ((k + 1 : Nat) : Int) (by kernel_rfl) (by omega)) ?_
            refine K.q [.int .i64 ((k + 1 : Nat) : Int)] (K.z (K.t ?_))
            refine ⟨_, ?_, k + 1, ld_454, rfl, ⟨by rfl, by rfl, by rfl, by rfl, by rfl, by rfl, by rfl, by rfl, by rfl, by rfl, by rfl, trivial⟩, (by omega), hd_453, hS.pick [0, 1, 2, 3, 4, 5, 6]⟩
            omega
           ·
            refine K.q [.bool true, .int .u64 e', .slice (some ⟨r_26, 0, none⟩) c.th.toNat c.th.toNat, .int .i64 ((k : Nat) : Int)] ?_
            refine K.a (K.QR.ix (0 + k * 5) 5 rfl rfl rfl Try.underlying51 (by kernel_rfl) (by omega) (by first | (simp; done) | omega | (simp; omega))) ?_
            refine K.q [.pointer (some ⟨r_26, 0 + k * 5 + 4, none⟩)] ?_
            refine K.d (.int .u64 h1.at_) (K.row_at0 (j := 4) (hS.ownr 0 rfl how_450) hcs_445 hall_446 rfl htl_447 rfl) ?_
            refine K.a (K.QR.nu64 ((h1.at_ : Int) + (1 : Int)) ((h1.at_ : Int) + (1 : Int)) (by kernel_rfl) (by have h := hat1 hb_452; omega)) ?_
            refine K.x ((e' : Int) > ((h1.at_ : Int) + (1 : Int) : Int)) (by have h := hat1 hb_452; omega) ?_
            refine K.q [.bool false] (K.z (K.t (K.f (K.k ?_))))
            refine K.blk_normal ?_
            refine K.t ?_
            have hd_455 : K.Hands (handEl b_13) 58 5 (row_440 ++ (hA_441 ++ ([hg_442].flatten ++ hB_443))) ((some ⟨r_26, 0, none⟩)) ((hs.set tk (⟨(stepE c ((lns c).toNat) (newE 1 ((tk : Nat) : Int)) M).1, false, h0.at_⟩ : HandE)).set k h1) := hcl_451 _ _ _ [.pointer u2, .pointer v2, .pointer w2, .bool h1.inn, .int .u64 h1.at_] rfl ⟨_, _, _, rfl, by simpa using hmx2⟩ how_450
            replace hS : K.Sat w0 [(row_440 ++ (hA_441 ++ ([hg_442].flatten ++ hB_443))), gl_18, l_331, g2_324, m_20, g_2, fr] w := (hS.pick [0, 1, 2, 3, 4, 5, 6, 7, 8, 9]).of (by simp [K.pick, K.nth])
            generalize (row_440 ++ (hA_441 ++ ([hg_442].flatten ++ hB_443))) = ld_456 at hS hd_455
            rw [K.hs_self hk1] at hd_455
            refine K.g (K.q [.int .i64 ((k : Nat) : Int)] ?_)
            refine K.a (K.QR.n64 ((((k : Nat) : Int) : Int) + (1 : Int)) ((k + 1 : Nat) : Int) (by kernel_rfl) (by omega)) ?_
            refine K.q [.int .i64 ((k + 1 : Nat) : Int)] (K.z (K.t ?_))
            refine ⟨_, ?_, k + 1, ld_456, rfl, ⟨by rfl, by rfl, by rfl, by rfl, by rfl, by rfl, by rfl, by rfl, by rfl, by rfl, by rfl, trivial⟩, (by omega), hd_455, hS.pick [0, 1, 2, 3, 4, 5, 6]⟩
            omega
          ·
           refine K.x ((((k : Nat) : Int) : Int) < (((c.th.toNat : Nat) : Int) : Int)) h_439 ?_
           refine K.z (K.t (K.f ?_))
           refine K.KW.exit ?_
           refine K.thn_exit ?_
           refine K.thn_exit ?_
           refine K.blk_hit ?_
           refine K.blk_normal ?_
           refine K.t (K.g (K.q [.int .i64 ((j : Nat) : Int)] ?_))
           refine K.a (K.QR.n64 ((((j : Nat) : Int) : Int) + (1 : Int)) ((j + 1 : Nat) : Int) (by kernel_rfl) (by omega)) ?_
           refine K.q [.int .i64 ((j + 1 : Nat) : Int)] (K.z (K.t ?_))
           refine ⟨_, ?_, j + 1, (hs.set tk (⟨(stepE c ((lns c).toNat) (newE 1 ((tk : Nat) : Int)) M).1, false, h0.at_⟩ : HandE)), ((stepE c ((lns c).toNat) (newE 1 ((tk : Nat) : Int)) M).2), e', hd2, l_331, rfl, ⟨by rfl, by rfl, by rfl, by rfl, by rfl, by rfl, by rfl, by rfl, by rfl, trivial⟩, (by omega), (hI_433), x_438, x_333, hS.pick [0, 1, 2, 4, 5, 6]⟩
           omega
      ·
       refine K.x ((xs.getD j 0 : Int) ≥ (128 : Int)) h_179 ?_
       refine K.q [.bool false] ?_
       refine K.RW.skip rfl (by kernel_rfl) ?_
       refine K.RW.skip rfl (by kernel_rfl) ?_
       refine K.RW.skip rfl (by kernel_rfl) ?_
       refine K.RW.skip rfl (by kernel_rfl) ?_
       refine K.q [.bool false] (K.z (K.t (K.f (K.s (K.g (K.q [.slice (some ⟨b_37, of_38, none⟩) xs.length cap, .int .i64 ((j : Nat) : Int)] ?_))))))
       refine K.a (K.QR.ix (of_38 + j * 1) 1 rfl rfl rfl Try.underlying25 (by kernel_rfl) (by omega) (by first | (simp; done) | omega | (simp; omega))) ?_
       refine K.d (.int .u8 (xs.getD j 0)) ((hx.no hS.chg).ld j (by omega) 0 _ rfl) ?_
       refine K.x ((xs.getD j 0 : Int) ≥ (128 : Int)) h_179 ?_
       refine K.z (K.t (K.f (K.k (K.t (K.g (K.q [.pointer (some ⟨r_26, 0 + tk * 5, none⟩), .pointer (some ⟨b_13, 0, none⟩)] ?_))))))
       refine K.a (K.QR.ldN [.int .i64 c.th, .int .i64 c.sl, .int .i64 c.lo, .int .i64 c.bu] rfl rfl (by kernel_rfl) (by kernel_rfl) (K.cells (K.cl ((hS.blk 7 rfl hg_3).cell rfl) (K.cl ((hS.blk 7 rfl hg_3).cell rfl) (K.cl ((hS.blk 7 rfl hg_3).cell rfl) (K.cl ((hS.blk 7 rfl hg_3).cell rfl) K.cl0)))))) ?_
       refine K.q [.int .i64 2, .int .i64 ((tk : Nat) : Int)] ?_
       refine K.l (K.OW.gcall hS [] [0, 1, 2, 3, 4, 5, 6, 7, 8] [.pointer (some ⟨b_13, 0, none⟩), .agg #[.int .i64 c.th, .int .i64 c.sl, .int .i64 c.lo, .int .i64 c.bu], .int .i64 2, .int .i64 ((tk : Nat) : Int)] (made_ad _ _ c ((tk : Nat) : Int) (by omega)) ?_)
       clear hS; rintro _ _ w ⟨u_457, v_458, w_459, r_460, g_461, g2_462, rfl, rfl, h_463⟩ hS
       replace hS : K.Sat w0 [g_461, g2_462, hg_41, row_39, hA_40, hB_42, gl_18, l1, m_20, g_2, fr] w := hS
       have hx_464 : (newE 2 ((tk : Nat) : Int)).good := newE_good (by omega)
       have hnd_465 := newE_done 2 ((tk : Nat) : Int)
       have hok1 := MOk_new hs e tk h0.inn 2 (fun h => absurd h (by decide))
       refine K.q [.tuple #[.agg #[.pointer u_457, .pointer v_458, .pointer w_459], .pointer (some ⟨r_460, 0, none⟩)], .agg #[.pointer u_457, .pointer v_458, .pointer w_459], .pointer (some ⟨r_460, 0, none⟩), .pointer (some ⟨r_26, 0 + tk * 5, none⟩), .pointer (some ⟨r_26, 0 + tk * 5, none⟩)] ?_
       refine K.l (K.OW.grst 3 (0 + tk * 5 + 0) [.pointer u_457, .pointer v_458, .pointer w_459] ((cs_43.set tk [.pointer u_457, .pointer v_458, .pointer w_459, .bool h0.inn, .int .u64 h0.at_]).flatten) hS how_49 ?_ (by show _ + 3 ≤ _; omega) (K.set_at0 (j := 0) hcs_44 hall_45 rfl htl_46 (Nat.le_of_ble_eq_true rfl) rfl))
       clear hS; intro w l_466 o_467 hS
       replace hS : K.Sat w0 [g_461, g2_462, hg_41, l_466, hA_40, hB_42, gl_18, l1, m_20, g_2, fr] w := hS
       refine K.z (K.t (K.s (K.g (K.q [.pointer (some ⟨r_26, 0 + tk * 5, none⟩), .pointer (some ⟨r_26, 0 + tk * 5, none⟩), .pointer (some ⟨r_26, 0 + tk * 5, none⟩)] ?_))))
       refine K.a (K.QR.ldN [.pointer u_457, .pointer v_458, .pointer w_459] rfl rfl (by kernel_rfl) (by kernel_rfl) (K.cells (K.cl (K.row_at0 (j := 0) (hS.ownr 3 rfl o_467) hcs_44 hall_45 rfl htl_46 rfl) (K.cl (K.row_at0 (j := 1) (hS.ownr 3 rfl o_467) hcs_44 hall_45 rfl htl_46 rfl) (K.cl (K.row_at0 (j := 2) (hS.ownr 3 rfl o_467) hcs_44 hall_45 rfl htl_46 rfl) K.cl0))))) ?_
       refine K.q [.pointer (some ⟨p_14, 0, none⟩)] ?_
       refine K.l (K.OW.gcall hS [0, 6, 7] [1, 2, 3, 4, 5, 8, 9, 10] [.agg #[.pointer u_457, .pointer v_458, .pointer w_459], .pointer (some ⟨p_14, 0, none⟩)] (machStep_ok _ _ _ _ _ _ c (by first | assumption | (unfold cfgOk; decide)) (newE 2 ((tk : Nat) : Int)) M _ _ _ _ _ _ h_463 hl_21 x_35 (by assumption) (by assumption) (by assumption)) ?_)
       clear hS; rintro _ _ w ⟨g_468, l_469, rfl, rfl, h_470, x_471⟩ hS
       replace hS : K.Sat w0 [g_468, gl_18, l_469, g2_462, hg_41, l_466, hA_40, hB_42, m_20, g_2, fr] w := hS
       obtain ⟨hx_472, hM_473⟩ := (stepE_good (by first | assumption | (unfold cfgOk; decide)) (by assumption) (by assumption) : (stepE c ((lns c).toNat) (newE 2 ((tk : Nat) : Int)) M).1.good ∧ (stepE c ((lns c).toNat) (newE 2 ((tk : Nat) : Int)) M).2.good)
       refine K.z (K.t (K.s ?_))
       obtain ⟨e', hpk', hnext⟩ := HInv.next (by omega) hI (by omega) hSo (by first | assumption | (unfold cfgOk; decide)) (by assumption) (by assumption) hok1
       refine K.g (K.q [.pointer (some ⟨p_14, 0, none⟩)] ?_)
       refine K.l (K.OW.gcall hS [2] [0, 1, 3, 4, 5, 6, 7, 8, 9, 10] [.pointer (some ⟨p_14, 0, none⟩), .int .i64 (-1)] (pkS_ok _ _ _ _ _ _ _ x_471 ((-1) : Int) (by first | omega | assumption | exact aft_int (by assumption) _ | exact ann_int (by assumption) _ (by first | omega | assumption)) e' (hpk')) ?_)
       clear hS; rintro _ _ w ⟨rfl, rfl⟩ hS
       replace hS : K.Sat w0 [l_469, g_468, gl_18, g2_462, hg_41, l_466, hA_40, hB_42, m_20, g_2, fr] w := hS
       refine K.q [.tuple #[.int .u64 e', .bool true], .int .u64 e', .bool true, .int .u64 e', .bool true] (K.z (K.t (K.s (K.g (K.q [.pointer (some ⟨b_13, 0, none⟩), .pointer (some ⟨p_14, 0, none⟩), .int .i64 ((tk : Nat) : Int)] ?_)))))
       refine K.l (K.OW.gcall hS [2, 0] [1, 3, 4, 5, 6, 7, 8, 9, 10] [.pointer (some ⟨b_13, 0, none⟩), .pointer (some ⟨p_14, 0, none⟩), .int .i64 ((tk : Nat) : Int)] (epIn_ok _ _ _ _ _ _ c (by first | assumption | (unfold cfgOk; decide)) ((stepE c ((lns c).toNat) (newE 2 ((tk : Nat) : Int)) M).2) _ _ hl_21 x_471 (by assumption) ((tk : Nat) : Int) (by omega)) ?_)
       clear hS; rintro _ _ w ⟨rfl, (⟨y_474, rfl, h_475, hz_476⟩ | ⟨rfl, h_477⟩ | ⟨rfl, h_478⟩)⟩ hS
       ·
        replace hS : K.Sat w0 [gl_18, l_469, g_468, g2_462, hg_41, l_466, hA_40, hB_42, m_20, g_2, fr] w := hS
        have hw_479 : isW y_474 := peek_W (by assumption) h_475
        unfold isW at hw_479
        have hin' : (true = true ↔ annW (lns c).toNat (stepE c ((lns c).toNat) (newE 2 ((tk : Nat) : Int)) M).2 tk ≠ 0) := by unfold annW; rw [← ann_at (c := c) (by omega), h_475]; simp; omega
        refine K.q [.tuple #[.int .u64 (y_474 - 1), .bool true], .int .u64 (y_474 - 1), .bool true, .int .u64 (y_474 - 1), .bool true] (K.z (K.t (K.s (K.s (K.g (K.q [.bool true, .bool true, .pointer (some ⟨r_26, 0 + tk * 5, none⟩), .pointer (some ⟨r_26, 0 + tk * 5, none⟩), .pointer (some ⟨r_26, 0 + tk * 5 + 3, none⟩)] ?_))))))
        refine K.d (.bool h0.inn) (K.row_at0 (j := 3) (hS.ownr 5 rfl o_467) hcs_44 hall_45 rfl htl_46 rfl) ?_
        cases hb_480 : h0.inn
        ·
         refine K.q [.bool true, .bool true] (K.z (K.t (K.h (K.g (K.q [.pointer (some ⟨r_26, 0 + tk * 5, none⟩), .int .u64 e', .pointer (some ⟨r_26, 0 + tk * 5, none⟩), .pointer (some ⟨r_26, 0 + tk * 5 + 4, none⟩)] ?_)))))
         refine K.l (K.OW.grst 5 (0 + tk * 5 + 4) [.int .u64 e'] ((cs_43.set tk [.pointer u_457, .pointer v_458, .pointer w_459, .bool h0.inn, .int .u64 e']).flatten) hS o_467 ?_ (by show _ + 1 ≤ _; omega) (K.set_at0 (j := 4) hcs_44 hall_45 rfl htl_46 (Nat.le_of_ble_eq_true rfl) rfl))
         clear hS; intro w l_481 o_482 hS
         replace hS : K.Sat w0 [gl_18, l_469, g_468, g2_462, hg_41, l_481, hA_40, hB_42, m_20, g_2, fr] w := hS
         refine K.z (K.t (K.s (K.g (K.q [.pointer (some ⟨r_26, 0 + tk * 5, none⟩), .bool true, .pointer (some ⟨r_26, 0 + tk * 5, none⟩), .pointer (some ⟨r_26, 0 + tk * 5 + 3, none⟩)] ?_))))
         refine K.l (K.OW.grst 5 (0 + tk * 5 + 3) [.bool true] ((cs_43.set tk [.pointer u_457, .pointer v_458, .pointer w_459, .bool true, .int .u64 e']).flatten) hS o_482 ?_ (by show _ + 1 ≤ _; omega) (K.set_at0 (j := 3) hcs_44 hall_45 rfl htl_46 (Nat.le_of_ble_eq_true rfl) rfl))
         clear hS; intro w l_483 o_484 hS
         replace hS : K.Sat w0 [gl_18, l_469, g_468, g2_462, hg_41, l_483, hA_40, hB_42, m_20, g_2, fr] w := hS
         refine K.z (K.t (K.s ?_))
         have hd_485 : K.Hands (handEl b_13) 58 5 (l_483 ++ (hA_40 ++ ([g_468].flatten ++ hB_42))) ((some ⟨r_26, 0, none⟩)) (hs.set tk (⟨(stepE c ((lns c).toNat) (newE 2 ((tk : Nat) : Int)) M).1, true, e'⟩ : HandE)) := hcl_50 _ _ _ [.pointer u_457, .pointer v_458, .pointer w_459, .bool true, .int .u64 e'] rfl ⟨_, _, _, rfl, by simpa using h_470⟩ o_484
         replace hS : K.Sat w0 [(l_483 ++ (hA_40 ++ ([g_468].flatten ++ hB_42))), gl_18, l_469, g2_462, m_20, g_2, fr] w := (hS.pick [5, 6, 2, 7, 0, 1, 3, 8, 9, 10]).of (by simp [K.pick, K.nth])
         generalize (l_483 ++ (hA_40 ++ ([g_468].flatten ++ hB_42))) = ld_486 at hS hd_485
         have hI_487 : HInv c (lns c).toNat (hs.set tk (⟨(stepE c ((lns c).toNat) (newE 2 ((tk : Nat) : Int)) M).1, true, e'⟩ : HandE)) (stepE c ((lns c).toNat) (newE 2 ((tk : Nat) : Int)) M).2 e' (j + 1) := by have h := hnext true hin'; rwa [if_pos ⟨rfl, hb_480⟩] at h
         have hlen2 := hI_487.len
         have heb2 := hI_487.eb
         refine K.g (K.q [.int .i64 0] (K.z (K.t ?_)))
         refine K.KW.block ?_
         refine K.KW.loop (fun m_ F_ w_ => ∃ (k : Nat) (hd2 : K.Cs), m_ = c.th.toNat - k ∧ K.Sl F_ [(0, .agg #[.int .i64 c.th, .int .i64 c.sl, .int .i64 c.lo, .int .i64 c.bu]), (1, .slice (some ⟨b_37, of_38, none⟩) xs.length cap), (2, .pointer (some ⟨r_1, 0, none⟩)), (5, .pointer (some ⟨b_13, 0, none⟩)), (6, .pointer (some ⟨p_14, 0, none⟩)), (8, .bool true), (9, .slice (some ⟨r_26, 0, none⟩) c.th.toNat c.th.toNat), (10, .int .i64 ((j : Nat) : Int)), (14, .int .u64 e'), (18, .int .i64 ((k : Nat) : Int)), (148, undef)] ∧ k ≤ c.th.toNat ∧ K.Hands (handEl b_13) 58 5 hd2 ((some ⟨r_26, 0, none⟩)) (hs.set tk (⟨(stepE c ((lns c).toNat) (newE 2 ((tk : Nat) : Int)) M).1, true, e'⟩ : HandE)) ∧ K.Sat w0 [hd2, gl_18, l_469, g2_462, m_20, g_2, fr] w_) ((fun (k : Nat) => c.th.toNat - k) 0) ?_ ?_
         ·
          exact ⟨0, ld_486, rfl, ⟨by rfl, by rfl, by rfl, by rfl, by rfl, by rfl, by rfl, by rfl, by rfl, by rfl, by rfl, trivial⟩, (by omega), hd_485, hS.pick [0, 1, 2, 3, 4, 5, 6]⟩
         ·
          clear hS
          intro m_488 F_489 w hI
          obtain ⟨k, hd2, rfl, sl_490, p_491, x_492, hS⟩ := hI
          rw [← K.Sl.puts sl_490]; clear sl_490
          refine K.s (K.s (K.g (K.q [.int .i64 ((k : Nat) : Int), .slice (some ⟨r_26, 0, none⟩) c.th.toNat c.th.toNat] ?_)))
          refine K.a (K.QR.len (P := Try.prog) rfl rfl Try.underlying51) ?_
          by_cases h_493 : (((k : Nat) : Int) : Int) < (((c.th.toNat : Nat) : Int) : Int)
          ·
           refine K.y ((((k : Nat) : Int) : Int) < (((c.th.toNat : Nat) : Int) : Int)) h_493 ?_
           refine K.z (K.t (K.h (K.k (K.t (K.s ?_)))))
           refine K.KW.block ?_
           refine K.s ?_
           obtain ⟨h1, hk1⟩ := hs_at (hs := (hs.set tk (⟨(stepE c ((lns c).toNat) (newE 2 ((tk : Nat) : Int)) M).1, true, e'⟩ : HandE))) (t := k) (by omega)
           have hat1 := hI_487.at_ k _ hk1
           obtain ⟨row_494, hA_495, hg_496, hB_497, cs_498, rfl, hcs_499, hall_500, htl_501, hct_502, hel_503, how_504, hcl_505⟩ := x_492.open_ k h1 hk1
           replace hS : K.Sat w0 [row_494, hA_495, hg_496, hB_497, gl_18, l_469, g2_462, m_20, g_2, fr] w := hS.of
           obtain ⟨u2, v2, w2, hce2, hmx2⟩ := hel_503
           rw [hce2] at how_504
           replace hS : K.Sat w0 [row_494, hA_495, hg_496, hB_497, gl_18, l_469, g2_462, m_20, g_2, fr] w := hS.of (by simp [K.pick, K.nth])
           refine K.g (K.q [.slice (some ⟨r_26, 0, none⟩) c.th.toNat c.th.toNat, .int .i64 ((k : Nat) : Int)] ?_)
           refine K.a (K.QR.ix (0 + k * 5) 5 rfl rfl rfl Try.underlying51 (by kernel_rfl) (by omega) (by first | (simp; done) | omega | (simp; omega))) ?_
           refine K.q [.pointer (some ⟨r_26, 0 + k * 5 + 3, none⟩)] ?_
           refine K.d (.bool h1.inn) (K.row_at0 (j := 3) (hS.ownr 0 rfl how_504) hcs_499 hall_500 rfl htl_501 rfl) ?_
           cases hb_506 : h1.inn
           ·
            refine K.q [.bool false] ?_
            refine K.RW.skip rfl (by kernel_rfl) ?_
            refine K.RW.skip rfl (by kernel_rfl) ?_
            refine K.RW.skip rfl (by kernel_rfl) ?_
            refine K.RW.skip rfl (by kernel_rfl) ?_
            refine K.RW.skip rfl (by kernel_rfl) ?_
            refine K.RW.skip rfl (by kernel_rfl) ?_
            refine K.RW.skip rfl (by kernel_rfl) ?_
            refine K.RW.skip rfl (by kernel_rfl) ?_
            refine K.q [.bool false] (K.z (K.t (K.f (K.k ?_))))
            refine K.blk_normal ?_
            refine K.t ?_
            have hd_507 : K.Hands (handEl b_13) 58 5 (row_494 ++ (hA_495 ++ ([hg_496].flatten ++ hB_497))) ((some ⟨r_26, 0, none⟩)) ((hs.set tk (⟨(stepE c ((lns c).toNat) (newE 2 ((tk : Nat) : Int)) M).1, true, e'⟩ : HandE)).set k h1) := hcl_505 _ _ _ [.pointer u2, .pointer v2, .pointer w2, .bool h1.inn, .int .u64 h1.at_] rfl ⟨_, _, _, rfl, by simpa using hmx2⟩ how_504
            replace hS : K.Sat w0 [(row_494 ++ (hA_495 ++ ([hg_496].flatten ++ hB_497))), gl_18, l_469, g2_462, m_20, g_2, fr] w := (hS.pick [0, 1, 2, 3, 4, 5, 6, 7, 8, 9]).of (by simp [K.pick, K.nth])
            generalize (row_494 ++ (hA_495 ++ ([hg_496].flatten ++ hB_497))) = ld_508 at hS hd_507
            rw [K.hs_self hk1] at hd_507
            refine K.g (K.q [.int .i64 ((k : Nat) : Int)] ?_)
            refine K.a (K.QR.n64 ((((k : Nat) : Int) : Int) + (1 : Int)) ((k + 1 : Nat) : Int) (by kernel_rfl) (by omega)) ?_
            refine K.q [.int .i64 ((k + 1 : Nat) : Int)] (K.z (K.t ?_))
            refine ⟨_, ?_, k + 1, ld_508, rfl, ⟨by rfl, by rfl, by rfl, by rfl, by rfl, by rfl, by rfl, by rfl, by rfl, by rfl, by rfl, trivial⟩, (by omega), hd_507, hS.pick [0, 1, 2, 3, 4, 5, 6]⟩
            omega
           ·
            refine K.q [.bool true, .int .u64 e', .slice (some ⟨r_26, 0, none⟩) c.th.toNat c.th.toNat, .int .i64 ((k : Nat) : Int)] ?_
            refine K.a (K.QR.ix (0 + k * 5) 5 rfl rfl rfl Try.underlying51 (by kernel_rfl) (by omega) (by first | (simp; done) | omega | (simp; omega))) ?_
            refine K.q [.pointer (some ⟨r_26, 0 + k * 5 + 4, none⟩)] ?_
            refine K.d (.int .u64 h1.at_) (K.row_at0 (j := 4) (hS.ownr 0 rfl how_504) hcs_499 hall_500 rfl htl_501 rfl) ?_
            refine K.a (K.QR.nu64 ((h1.at_ : Int) + (1 : Int)) ((h1.at_ : Int) + (1 : Int)) (by kernel_rfl) (by have h := hat1 hb_506; omega)) ?_
            refine K.x ((e' : Int) > ((h1.at_ : Int) + (1 : Int) : Int)) (by have h := hat1 hb_506; omega) ?_
            refine K.q [.bool false] (K.z (K.t (K.f (K.k ?_))))
            refine K.blk_normal ?_
            refine K.t ?_
            have hd_509 : K.Hands (handEl b_13) 58 5 (row_494 ++ (hA_495 ++ ([hg_496].flatten ++ hB_497))) ((some ⟨r_26, 0, none⟩)) ((hs.set tk (⟨(stepE c ((lns c).toNat) (newE 2 ((tk : Nat) : Int)) M).1, true, e'⟩ : HandE)).set k h1) := hcl_505 _ _ _ [.pointer u2, .pointer v2, .pointer w2, .bool h1.inn, .int .u64 h1.at_] rfl ⟨_, _, _, rfl, by simpa using hmx2⟩ how_504
            replace hS : K.Sat w0 [(row_494 ++ (hA_495 ++ ([hg_496].flatten ++ hB_497))), gl_18, l_469, g2_462, m_20, g_2, fr] w := (hS.pick [0, 1, 2, 3, 4, 5, 6, 7, 8, 9]).of (by simp [K.pick, K.nth])
            generalize (row_494 ++ (hA_495 ++ ([hg_496].flatten ++ hB_497))) = ld_510 at hS hd_509
            rw [K.hs_self hk1] at hd_509
            refine K.g (K.q [.int .i64 ((k : Nat) : Int)] ?_)
            refine K.a (K.QR.n64 ((((k : Nat) : Int) : Int) + (1 : Int)) ((k + 1 : Nat) : Int) (by kernel_rfl) (by omega)) ?_
            refine K.q [.int .i64 ((k + 1 : Nat) : Int)] (K.z (K.t ?_))
            refine ⟨_, ?_, k + 1, ld_510, rfl, ⟨by rfl, by rfl, by rfl, by rfl, by rfl, by rfl, by rfl, by rfl, by rfl, by rfl, by rfl, trivial⟩, (by omega), hd_509, hS.pick [0, 1, 2, 3, 4, 5, 6]⟩
            omega
          ·
           refine K.x ((((k : Nat) : Int) : Int) < (((c.th.toNat : Nat) : Int) : Int)) h_493 ?_
           refine K.z (K.t (K.f ?_))
           refine K.KW.exit ?_
           refine K.thn_exit ?_
           refine K.thn_exit ?_
           refine K.blk_hit ?_
           refine K.blk_normal ?_
           refine K.t (K.g (K.q [.int .i64 ((j : Nat) : Int)] ?_))
           refine K.a (K.QR.n64 ((((j : Nat) : Int) : Int) + (1 : Int)) ((j + 1 : Nat) : Int) (by kernel_rfl) (by omega)) ?_
           refine K.q [.int .i64 ((j + 1 : Nat) : Int)] (K.z (K.t ?_))
           refine ⟨_, ?_, j + 1, (hs.set tk (⟨(stepE c ((lns c).toNat) (newE 2 ((tk : Nat) : Int)) M).1, true, e'⟩ : HandE)), ((stepE c ((lns c).toNat) (newE 2 ((tk : Nat) : Int)) M).2), e', hd2, l_469, rfl, ⟨by rfl, by rfl, by rfl, by rfl, by rfl, by rfl, by rfl, by rfl, by rfl, trivial⟩, (by omega), (hI_487), x_492, x_471, hS.pick [0, 1, 2, 4, 5, 6]⟩
           omega
        ·
         refine K.q [.bool false, .bool false] (K.z (K.t (K.f (K.k (K.t (K.s (K.g (K.q [.pointer (some ⟨r_26, 0 + tk * 5, none⟩), .bool true, .pointer (some ⟨r_26, 0 + tk * 5, none⟩), .pointer (some ⟨r_26, 0 + tk * 5 + 3, none⟩)] ?_))))))))
         refine K.l (K.OW.grst 5 (0 + tk * 5 + 3) [.bool true] ((cs_43.set tk [.pointer u_457, .pointer v_458, .pointer w_459, .bool true, .int .u64 h0.at_]).flatten) hS o_467 ?_ (by show _ + 1 ≤ _; omega) (K.set_at0 (j := 3) hcs_44 hall_45 rfl htl_46 (Nat.le_of_ble_eq_true rfl) rfl))
         clear hS; intro w l_511 o_512 hS
         replace hS : K.Sat w0 [gl_18, l_469, g_468, g2_462, hg_41, l_511, hA_40, hB_42, m_20, g_2, fr] w := hS
         refine K.z (K.t (K.s ?_))
         have hd_513 : K.Hands (handEl b_13) 58 5 (l_511 ++ (hA_40 ++ ([g_468].flatten ++ hB_42))) ((some ⟨r_26, 0, none⟩)) (hs.set tk (⟨(stepE c ((lns c).toNat) (newE 2 ((tk : Nat) : Int)) M).1, true, h0.at_⟩ : HandE)) := hcl_50 _ _ _ [.pointer u_457, .pointer v_458, .pointer w_459, .bool true, .int .u64 h0.at_] rfl ⟨_, _, _, rfl, by simpa using h_470⟩ o_512
         replace hS : K.Sat w0 [(l_511 ++ (hA_40 ++ ([g_468].flatten ++ hB_42))), gl_18, l_469, g2_462, m_20, g_2, fr] w := (hS.pick [5, 6, 2, 7, 0, 1, 3, 8, 9, 10]).of (by simp [K.pick, K.nth])
         generalize (l_511 ++ (hA_40 ++ ([g_468].flatten ++ hB_42))) = ld_514 at hS hd_513
         have hI_515 : HInv c (lns c).toNat (hs.set tk (⟨(stepE c ((lns c).toNat) (newE 2 ((tk : Nat) : Int)) M).1, true, h0.at_⟩ : HandE)) (stepE c ((lns c).toNat) (newE 2 ((tk : Nat) : Int)) M).2 e' (j + 1) := by have h := hnext true hin'; rwa [if_neg (fun h => by rw [hb_480] at h; cases h.2)] at h
         have hlen2 := hI_515.len
         have heb2 := hI_515.eb
         refine K.g (K.q [.int .i64 0] (K.z (K.t ?_)))
         refine K.KW.block ?_
         refine K.KW.loop (fun m_ F_ w_ => ∃ (k : Nat) (hd2 : K.Cs), m_ = c.th.toNat - k ∧ K.Sl F_ [(0, .agg #[.int .i64 c.th, .int .i64 c.sl, .int .i64 c.lo, .int .i64 c.bu]), (1, .slice (some ⟨b_37, of_38, none⟩) xs.length cap), (2, .pointer (some ⟨r_1, 0, none⟩)), (5, .pointer (some ⟨b_13, 0, none⟩)), (6, .pointer (some ⟨p_14, 0, none⟩)), (8, .bool true), (9, .slice (some ⟨r_26, 0, none⟩) c.th.toNat c.th.toNat), (10, .int .i64 ((j : Nat) : Int)), (14, .int .u64 e'), (18, .int .i64 ((k : Nat) : Int)), (148, undef)] ∧ k ≤ c.th.toNat ∧ K.Hands (handEl b_13) 58 5 hd2 ((some ⟨r_26, 0, none⟩)) (hs.set tk (⟨(stepE c ((lns c).toNat) (newE 2 ((tk : Nat) : Int)) M).1, true, h0.at_⟩ : HandE)) ∧ K.Sat w0 [hd2, gl_18, l_469, g2_462, m_20, g_2, fr] w_) ((fun (k : Nat) => c.th.toNat - k) 0) ?_ ?_
         ·
          exact ⟨0, ld_514, rfl, ⟨by rfl, by rfl, by rfl, by rfl, by rfl, by rfl, by rfl, by rfl, by rfl, by rfl, by rfl, trivial⟩, (by omega), hd_513, hS.pick [0, 1, 2, 3, 4, 5, 6]⟩
         ·
          clear hS
          intro m_516 F_517 w hI
          obtain ⟨k, hd2, rfl, sl_518, p_519, x_520, hS⟩ := hI
          rw [← K.Sl.puts sl_518]; clear sl_518
          refine K.s (K.s (K.g (K.q [.int .i64 ((k : Nat) : Int), .slice (some ⟨r_26, 0, none⟩) c.th.toNat c.th.toNat] ?_)))
          refine K.a (K.QR.len (P := Try.prog) rfl rfl Try.underlying51) ?_
          by_cases h_521 : (((k : Nat) : Int) : Int) < (((c.th.toNat : Nat) : Int) : Int)
          ·
           refine K.y ((((k : Nat) : Int) : Int) < (((c.th.toNat : Nat) : Int) : Int)) h_521 ?_
           refine K.z (K.t (K.h (K.k (K.t (K.s ?_)))))
           refine K.KW.block ?_
           refine K.s ?_
           obtain ⟨h1, hk1⟩ := hs_at (hs := (hs.set tk (⟨(stepE c ((lns c).toNat) (newE 2 ((tk : Nat) : Int)) M).1, true, h0.at_⟩ : HandE))) (t := k) (by omega)
           have hat1 := hI_515.at_ k _ hk1
           obtain ⟨row_522, hA_523, hg_524, hB_525, cs_526, rfl, hcs_527, hall_528, htl_529, hct_530, hel_531, how_532, hcl_533⟩ := x_520.open_ k h1 hk1
           replace hS : K.Sat w0 [row_522, hA_523, hg_524, hB_525, gl_18, l_469, g2_462, m_20, g_2, fr] w := hS.of
           obtain ⟨u2, v2, w2, hce2, hmx2⟩ := hel_531
           rw [hce2] at how_532
           replace hS : K.Sat w0 [row_522, hA_523, hg_524, hB_525, gl_18, l_469, g2_462, m_20, g_2, fr] w := hS.of (by simp [K.pick, K.nth])
           refine K.g (K.q [.slice (some ⟨r_26, 0, none⟩) c.th.toNat c.th.toNat, .int .i64 ((k : Nat) : Int)] ?_)
           refine K.a (K.QR.ix (0 + k * 5) 5 rfl rfl rfl Try.underlying51 (by kernel_rfl) (by omega) (by first | (simp; done) | omega | (simp; omega))) ?_
           refine K.q [.pointer (some ⟨r_26, 0 + k * 5 + 3, none⟩)] ?_
           refine K.d (.bool h1.inn) (K.row_at0 (j := 3) (hS.ownr 0 rfl how_532) hcs_527 hall_528 rfl htl_529 rfl) ?_
           cases hb_534 : h1.inn
           ·
            refine K.q [.bool false] ?_
            refine K.RW.skip rfl (by kernel_rfl) ?_
            refine K.RW.skip rfl (by kernel_rfl) ?_
            refine K.RW.skip rfl (by kernel_rfl) ?_
            refine K.RW.skip rfl (by kernel_rfl) ?_
            refine K.RW.skip rfl (by kernel_rfl) ?_
            refine K.RW.skip rfl (by kernel_rfl) ?_
            refine K.RW.skip rfl (by kernel_rfl) ?_
            refine K.RW.skip rfl (by kernel_rfl) ?_
            refine K.q [.bool false] (K.z (K.t (K.f (K.k ?_))))
            refine K.blk_normal ?_
            refine K.t ?_
            have hd_535 : K.Hands (handEl b_13) 58 5 (row_522 ++ (hA_523 ++ ([hg_524].flatten ++ hB_525))) ((some ⟨r_26, 0, none⟩)) ((hs.set tk (⟨(stepE c ((lns c).toNat) (newE 2 ((tk : Nat) : Int)) M).1, true, h0.at_⟩ : HandE)).set k h1) := hcl_533 _ _ _ [.pointer u2, .pointer v2, .pointer w2, .bool h1.inn, .int .u64 h1.at_] rfl ⟨_, _, _, rfl, by simpa using hmx2⟩ how_532
            replace hS : K.Sat w0 [(row_522 ++ (hA_523 ++ ([hg_524].flatten ++ hB_525))), gl_18, l_469, g2_462, m_20, g_2, fr] w := (hS.pick [0, 1, 2, 3, 4, 5, 6, 7, 8, 9]).of (by simp [K.pick, K.nth])
            generalize (row_522 ++ (hA_523 ++ ([hg_524].flatten ++ hB_525))) = ld_536 at hS hd_535
            rw [K.hs_self hk1] at hd_535
            refine K.g (K.q [.int .i64 ((k : Nat) : Int)] ?_)
            refine K.a (K.QR.n64 ((((k : Nat) : Int) : Int) + (1 : Int)) ((k + 1 : Nat) : Int) (by kernel_rfl) (by omega)) ?_
            refine K.q [.int .i64 ((k + 1 : Nat) : Int)] (K.z (K.t ?_))
            refine ⟨_, ?_, k + 1, ld_536, rfl, ⟨by rfl, by rfl, by rfl, by rfl, by rfl, by rfl, by rfl, by rfl, by rfl, by rfl, by rfl, trivial⟩, (by omega), hd_535, hS.pick [0, 1, 2, 3, 4, 5, 6]⟩
            omega
           ·
            refine K.q [.bool true, .int .u64 e', .slice (some ⟨r_26, 0, none⟩) c.th.toNat c.th.toNat, .int .i64 ((k : Nat) : Int)] ?_
            refine K.a (K.QR.ix (0 + k * 5) 5 rfl rfl rfl Try.underlying51 (by kernel_rfl) (by omega) (by first | (simp; done) | omega | (simp; omega))) ?_
            refine K.q [.pointer (some ⟨r_26, 0 + k * 5 + 4, none⟩)] ?_
            refine K.d (.int .u64 h1.at_) (K.row_at0 (j := 4) (hS.ownr 0 rfl how_532) hcs_527 hall_528 rfl htl_529 rfl) ?_
            refine K.a (K.QR.nu64 ((h1.at_ : Int) + (1 : Int)) ((h1.at_ : Int) + (1 : Int)) (by kernel_rfl) (by have h := hat1 hb_534; omega)) ?_
            refine K.x ((e' : Int) > ((h1.at_ : Int) + (1 : Int) : Int)) (by have h := hat1 hb_534; omega) ?_
            refine K.q [.bool false] (K.z (K.t (K.f (K.k ?_))))
            refine K.blk_normal ?_
            refine K.t ?_
            have hd_537 : K.Hands (handEl b_13) 58 5 (row_522 ++ (hA_523 ++ ([hg_524].flatten ++ hB_525))) ((some ⟨r_26, 0, none⟩)) ((hs.set tk (⟨(stepE c ((lns c).toNat) (newE 2 ((tk : Nat) : Int)) M).1, true, h0.at_⟩ : HandE)).set k h1) := hcl_533 _ _ _ [.pointer u2, .pointer v2, .pointer w2, .bool h1.inn, .int .u64 h1.at_] rfl ⟨_, _, _, rfl, by simpa using hmx2⟩ how_532
            replace hS : K.Sat w0 [(row_522 ++ (hA_523 ++ ([hg_524].flatten ++ hB_525))), gl_18, l_469, g2_462, m_20, g_2, fr] w := (hS.pick [0, 1, 2, 3, 4, 5, 6, 7, 8, 9]).of (by simp [K.pick, K.nth])
            generalize (row_522 ++ (hA_523 ++ ([hg_524].flatten ++ hB_525))) = ld_538 at hS hd_537
            rw [K.hs_self hk1] at hd_537
            refine K.g (K.q [.int .i64 ((k : Nat) : Int)] ?_)
            refine K.a (K.QR.n64 ((((k : Nat) : Int) : Int) + (1 : Int)) ((k + 1 : Nat) : Int) (by kernel_rfl) (by omega)) ?_
            refine K.q [.int .i64 ((k + 1 : Nat) : Int)] (K.z (K.t ?_))
            refine ⟨_, ?_, k + 1, ld_538, rfl, ⟨by rfl, by rfl, by rfl, by rfl, by rfl, by rfl, by rfl, by rfl, by rfl, by rfl, by rfl, trivial⟩, (by omega), hd_537, hS.pick [0, 1, 2, 3, 4, 5, 6]⟩
            omega
          ·
           refine K.x ((((k : Nat) : Int) : Int) < (((c.th.toNat : Nat) : Int) : Int)) h_521 ?_
           refine K.z (K.t (K.f ?_))
           refine K.KW.exit ?_
           refine K.thn_exit ?_
           refine K.thn_exit ?_
           refine K.blk_hit ?_
           refine K.blk_normal ?_
           refine K.t (K.g (K.q [.int .i64 ((j : Nat) : Int)] ?_))
           refine K.a (K.QR.n64 ((((j : Nat) : Int) : Int) + (1 : Int)) ((j + 1 : Nat) : Int) (by kernel_rfl) (by omega)) ?_
           refine K.q [.int .i64 ((j + 1 : Nat) : Int)] (K.z (K.t ?_))
           refine ⟨_, ?_, j + 1, (hs.set tk (⟨(stepE c ((lns c).toNat) (newE 2 ((tk : Nat) : Int)) M).1, true, h0.at_⟩ : HandE)), ((stepE c ((lns c).toNat) (newE 2 ((tk : Nat) : Int)) M).2), e', hd2, l_469, rfl, ⟨by rfl, by rfl, by rfl, by rfl, by rfl, by rfl, by rfl, by rfl, by rfl, trivial⟩, (by omega), (hI_515), x_520, x_471, hS.pick [0, 1, 2, 4, 5, 6]⟩
           omega
       ·
        replace hS : K.Sat w0 [gl_18, l_469, g_468, g2_462, hg_41, l_466, hA_40, hB_42, m_20, g_2, fr] w := hS
        have hin' : (false = true ↔ annW (lns c).toNat (stepE c ((lns c).toNat) (newE 2 ((tk : Nat) : Int)) M).2 tk ≠ 0) := by unfold annW; rw [← ann_at (c := c) (by omega), h_477]; simp
        refine K.q [.tuple #[.int .u64 0, .bool false], .int .u64 0, .bool false, .int .u64 0, .bool false] (K.z (K.t (K.s (K.s (K.g (K.q [.bool false, .bool false] ?_))))))
        refine K.RW.skip rfl (by kernel_rfl) ?_
        refine K.RW.skip rfl (by kernel_rfl) ?_
        refine K.RW.skip rfl (by kernel_rfl) ?_
        refine K.RW.skip rfl (by kernel_rfl) ?_
        refine K.RW.skip rfl (by kernel_rfl) ?_
        refine K.q [.bool false] (K.z (K.t (K.f (K.k (K.t (K.s (K.g (K.q [.pointer (some ⟨r_26, 0 + tk * 5, none⟩), .bool false, .pointer (some ⟨r_26, 0 + tk * 5, none⟩), .pointer (some ⟨r_26, 0 + tk * 5 + 3, none⟩)] ?_))))))))
        refine K.l (K.OW.grst 5 (0 + tk * 5 + 3) [.bool false] ((cs_43.set tk [.pointer u_457, .pointer v_458, .pointer w_459, .bool false, .int .u64 h0.at_]).flatten) hS o_467 ?_ (by show _ + 1 ≤ _; omega) (K.set_at0 (j := 3) hcs_44 hall_45 rfl htl_46 (Nat.le_of_ble_eq_true rfl) rfl))
        clear hS; intro w l_539 o_540 hS
        replace hS : K.Sat w0 [gl_18, l_469, g_468, g2_462, hg_41, l_539, hA_40, hB_42, m_20, g_2, fr] w := hS
        refine K.z (K.t (K.s ?_))
        have hd_541 : K.Hands (handEl b_13) 58 5 (l_539 ++ (hA_40 ++ ([g_468].flatten ++ hB_42))) ((some ⟨r_26, 0, none⟩)) (hs.set tk (⟨(stepE c ((lns c).toNat) (newE 2 ((tk : Nat) : Int)) M).1, false, h0.at_⟩ : HandE)) := hcl_50 _ _ _ [.pointer u_457, .pointer v_458, .pointer w_459, .bool false, .int .u64 h0.at_] rfl ⟨_, _, _, rfl, by simpa using h_470⟩ o_540
        replace hS : K.Sat w0 [(l_539 ++ (hA_40 ++ ([g_468].flatten ++ hB_42))), gl_18, l_469, g2_462, m_20, g_2, fr] w := (hS.pick [5, 6, 2, 7, 0, 1, 3, 8, 9, 10]).of (by simp [K.pick, K.nth])
        generalize (l_539 ++ (hA_40 ++ ([g_468].flatten ++ hB_42))) = ld_542 at hS hd_541
        have hI_543 : HInv c (lns c).toNat (hs.set tk (⟨(stepE c ((lns c).toNat) (newE 2 ((tk : Nat) : Int)) M).1, false, h0.at_⟩ : HandE)) (stepE c ((lns c).toNat) (newE 2 ((tk : Nat) : Int)) M).2 e' (j + 1) := by have h := hnext false hin'; rwa [if_neg (fun h => by cases h.1)] at h
        have hlen2 := hI_543.len
        have heb2 := hI_543.eb
        refine K.g (K.q [.int .i64 0] (K.z (K.t ?_)))
        refine K.KW.block ?_
        refine K.KW.loop (fun m_ F_ w_ => ∃ (k : Nat) (hd2 : K.Cs), m_ = c.th.toNat - k ∧ K.Sl F_ [(0, .agg #[.int .i64 c.th, .int .i64 c.sl, .int .i64 c.lo, .int .i64 c.bu]), (1, .slice (some ⟨b_37, of_38, none⟩) xs.length cap), (2, .pointer (some ⟨r_1, 0, none⟩)), (5, .pointer (some ⟨b_13, 0, none⟩)), (6, .pointer (some ⟨p_14, 0, none⟩)), (8, .bool true), (9, .slice (some ⟨r_26, 0, none⟩) c.th.toNat c.th.toNat), (10, .int .i64 ((j : Nat) : Int)), (14, .int .u64 e'), (18, .int .i64 ((k : Nat) : Int)), (148, undef)] ∧ k ≤ c.th.toNat ∧ K.Hands (handEl b_13) 58 5 hd2 ((some ⟨r_26, 0, none⟩)) (hs.set tk (⟨(stepE c ((lns c).toNat) (newE 2 ((tk : Nat) : Int)) M).1, false, h0.at_⟩ : HandE)) ∧ K.Sat w0 [hd2, gl_18, l_469, g2_462, m_20, g_2, fr] w_) ((fun (k : Nat) => c.th.toNat - k) 0) ?_ ?_
        ·
         exact ⟨0, ld_542, rfl, ⟨by rfl, by rfl, by rfl, by rfl, by rfl, by rfl, by rfl, by rfl, by rfl, by rfl, by rfl, trivial⟩, (by omega), hd_541, hS.pick [0, 1, 2, 3, 4, 5, 6]⟩
        ·
         clear hS
         intro m_544 F_545 w hI
         obtain ⟨k, hd2, rfl, sl_546, p_547, x_548, hS⟩ := hI
         rw [← K.Sl.puts sl_546]; clear sl_546
         refine K.s (K.s (K.g (K.q [.int .i64 ((k : Nat) : Int), .slice (some ⟨r_26, 0, none⟩) c.th.toNat c.th.toNat] ?_)))
         refine K.a (K.QR.len (P := Try.prog) rfl rfl Try.underlying51) ?_
         by_cases h_549 : (((k : Nat) : Int) : Int) < (((c.th.toNat : Nat) : Int) : Int)
         ·
          refine K.y ((((k : Nat) : Int) : Int) < (((c.th.toNat : Nat) : Int) : Int)) h_549 ?_
          refine K.z (K.t (K.h (K.k (K.t (K.s ?_)))))
          refine K.KW.block ?_
          refine K.s ?_
          obtain ⟨h1, hk1⟩ := hs_at (hs := (hs.set tk (⟨(stepE c ((lns c).toNat) (newE 2 ((tk : Nat) : Int)) M).1, false, h0.at_⟩ : HandE))) (t := k) (by omega)
          have hat1 := hI_543.at_ k _ hk1
          obtain ⟨row_550, hA_551, hg_552, hB_553, cs_554, rfl, hcs_555, hall_556, htl_557, hct_558, hel_559, how_560, hcl_561⟩ := x_548.open_ k h1 hk1
          replace hS : K.Sat w0 [row_550, hA_551, hg_552, hB_553, gl_18, l_469, g2_462, m_20, g_2, fr] w := hS.of
          obtain ⟨u2, v2, w2, hce2, hmx2⟩ := hel_559
          rw [hce2] at how_560
          replace hS : K.Sat w0 [row_550, hA_551, hg_552, hB_553, gl_18, l_469, g2_462, m_20, g_2, fr] w := hS.of (by simp [K.pick, K.nth])
          refine K.g (K.q [.slice (some ⟨r_26, 0, none⟩) c.th.toNat c.th.toNat, .int .i64 ((k : Nat) : Int)] ?_)
          refine K.a (K.QR.ix (0 + k * 5) 5 rfl rfl rfl Try.underlying51 (by kernel_rfl) (by omega) (by first | (simp; done) | omega | (simp; omega))) ?_
          refine K.q [.pointer (some ⟨r_26, 0 + k * 5 + 3, none⟩)] ?_
          refine K.d (.bool h1.inn) (K.row_at0 (j := 3) (hS.ownr 0 rfl how_560) hcs_555 hall_556 rfl htl_557 rfl) ?_
          cases hb_562 : h1.inn
          ·
           refine K.q [.bool false] ?_
           refine K.RW.skip rfl (by kernel_rfl) ?_
           refine K.RW.skip rfl (by kernel_rfl) ?_
           refine K.RW.skip rfl (by kernel_rfl) ?_
           refine K.RW.skip rfl (by kernel_rfl) ?_
           refine K.RW.skip rfl (by kernel_rfl) ?_
           refine K.RW.skip rfl (by kernel_rfl) ?_
           refine K.RW.skip rfl (by kernel_rfl) ?_
           refine K.RW.skip rfl (by kernel_rfl) ?_
           refine K.q [.bool false] (K.z (K.t (K.f (K.k ?_))))
           refine K.blk_normal ?_
           refine K.t ?_
           have hd_563 : K.Hands (handEl b_13) 58 5 (row_550 ++ (hA_551 ++ ([hg_552].flatten ++ hB_553))) ((some ⟨r_26, 0, none⟩)) ((hs.set tk (⟨(stepE c ((lns c).toNat) (newE 2 ((tk : Nat) : Int)) M).1, false, h0.at_⟩ : HandE)).set k h1) := hcl_561 _ _ _ [.pointer u2, .pointer v2, .pointer w2, .bool h1.inn, .int .u64 h1.at_] rfl ⟨_, _, _, rfl, by simpa using hmx2⟩ how_560
           replace hS : K.Sat w0 [(row_550 ++ (hA_551 ++ ([hg_552].flatten ++ hB_553))), gl_18, l_469, g2_462, m_20, g_2, fr] w := (hS.pick [0, 1, 2, 3, 4, 5, 6, 7, 8, 9]).of (by simp [K.pick, K.nth])
           generalize (row_550 ++ (hA_551 ++ ([hg_552].flatten ++ hB_553))) = ld_564 at hS hd_563
           rw [K.hs_self hk1] at hd_563
           refine K.g (K.q [.int .i64 ((k : Nat) : Int)] ?_)
           refine K.a (K.QR.n64 ((((k : Nat) : Int) : Int) + (1 : Int)) ((k + 1 : Nat) : Int) (by kernel_rfl) (by omega)) ?_
           refine K.q [.int .i64 ((k + 1 : Nat) : Int)] (K.z (K.t ?_))
           refine ⟨_, ?_, k + 1, ld_564, rfl, ⟨by rfl, by rfl, by rfl, by rfl, by rfl, by rfl, by rfl, by rfl, by rfl, by rfl, by rfl, trivial⟩, (by omega), hd_563, hS.pick [0, 1, 2, 3, 4, 5, 6]⟩
           omega
          ·
           refine K.q [.bool true, .int .u64 e', .slice (some ⟨r_26, 0, none⟩) c.th.toNat c.th.toNat, .int .i64 ((k : Nat) : Int)] ?_
           refine K.a (K.QR.ix (0 + k * 5) 5 rfl rfl rfl Try.underlying51 (by kernel_rfl) (by omega) (by first | (simp; done) | omega | (simp; omega))) ?_
           refine K.q [.pointer (some ⟨r_26, 0 + k * 5 + 4, none⟩)] ?_
           refine K.d (.int .u64 h1.at_) (K.row_at0 (j := 4) (hS.ownr 0 rfl how_560) hcs_555 hall_556 rfl htl_557 rfl) ?_
           refine K.a (K.QR.nu64 ((h1.at_ : Int) + (1 : Int)) ((h1.at_ : Int) + (1 : Int)) (by kernel_rfl) (by have h := hat1 hb_562; omega)) ?_
           refine K.x ((e' : Int) > ((h1.at_ : Int) + (1 : Int) : Int)) (by have h := hat1 hb_562; omega) ?_
           refine K.q [.bool false] (K.z (K.t (K.f (K.k ?_))))
           refine K.blk_normal ?_
           refine K.t ?_
           have hd_565 : K.Hands (handEl b_13) 58 5 (row_550 ++ (hA_551 ++ ([hg_552].flatten ++ hB_553))) ((some ⟨r_26, 0, none⟩)) ((hs.set tk (⟨(stepE c ((lns c).toNat) (newE 2 ((tk : Nat) : Int)) M).1, false, h0.at_⟩ : HandE)).set k h1) := hcl_561 _ _ _ [.pointer u2, .pointer v2, .pointer w2, .bool h1.inn, .int .u64 h1.at_] rfl ⟨_, _, _, rfl, by simpa using hmx2⟩ how_560
           replace hS : K.Sat w0 [(row_550 ++ (hA_551 ++ ([hg_552].flatten ++ hB_553))), gl_18, l_469, g2_462, m_20, g_2, fr] w := (hS.pick [0, 1, 2, 3, 4, 5, 6, 7, 8, 9]).of (by simp [K.pick, K.nth])
           generalize (row_550 ++ (hA_551 ++ ([hg_552].flatten ++ hB_553))) = ld_566 at hS hd_565
           rw [K.hs_self hk1] at hd_565
           refine K.g (K.q [.int .i64 ((k : Nat) : Int)] ?_)
           refine K.a (K.QR.n64 ((((k : Nat) : Int) : Int) + (1 : Int)) ((k + 1 : Nat) : Int) (by kernel_rfl) (by omega)) ?_
           refine K.q [.int .i64 ((k + 1 : Nat) : Int)] (K.z (K.t ?_))
           refine ⟨_, ?_, k + 1, ld_566, rfl, ⟨by rfl, by rfl, by rfl, by rfl, by rfl, by rfl, by rfl, by rfl, by rfl, by rfl, by rfl, trivial⟩, (by omega), hd_565, hS.pick [0, 1, 2, 3, 4, 5, 6]⟩
           omega
         ·
          refine K.x ((((k : Nat) : Int) : Int) < (((c.th.toNat : Nat) : Int) : Int)) h_549 ?_
          refine K.z (K.t (K.f ?_))
          refine K.KW.exit ?_
          refine K.thn_exit ?_
          refine K.thn_exit ?_
          refine K.blk_hit ?_
          refine K.blk_normal ?_
          refine K.t (K.g (K.q [.int .i64 ((j : Nat) : Int)] ?_))
          refine K.a (K.QR.n64 ((((j : Nat) : Int) : Int) + (1 : Int)) ((j + 1 : Nat) : Int) (by kernel_rfl) (by omega)) ?_
          refine K.q [.int .i64 ((j + 1 : Nat) : Int)] (K.z (K.t ?_))
          refine ⟨_, ?_, j + 1, (hs.set tk (⟨(stepE c ((lns c).toNat) (newE 2 ((tk : Nat) : Int)) M).1, false, h0.at_⟩ : HandE)), ((stepE c ((lns c).toNat) (newE 2 ((tk : Nat) : Int)) M).2), e', hd2, l_469, rfl, ⟨by rfl, by rfl, by rfl, by rfl, by rfl, by rfl, by rfl, by rfl, by rfl, trivial⟩, (by omega), (hI_543), x_548, x_471, hS.pick [0, 1, 2, 4, 5, 6]⟩
          omega
       ·
        replace hS : K.Sat w0 [gl_18, l_469, g_468, g2_462, hg_41, l_466, hA_40, hB_42, m_20, g_2, fr] w := hS
        have hin' : (false = true ↔ annW (lns c).toNat (stepE c ((lns c).toNat) (newE 2 ((tk : Nat) : Int)) M).2 tk ≠ 0) := by unfold annW; rw [← ann_at (c := c) (by omega), h_478]; simp
        refine K.q [.tuple #[.int .u64 0, .bool false], .int .u64 0, .bool false, .int .u64 0, .bool false] (K.z (K.t (K.s (K.s (K.g (K.q [.bool false, .bool false] ?_))))))
        refine K.RW.skip rfl (by kernel_rfl) ?_
        refine K.RW.skip rfl (by kernel_rfl) ?_
        refine K.RW.skip rfl (by kernel_rfl) ?_
        refine K.RW.skip rfl (by kernel_rfl) ?_
        refine K.RW.skip rfl (by kernel_rfl) ?_
        refine K.q [.bool false] (K.z (K.t (K.f (K.k (K.t (K.s (K.g (K.q [.pointer (some ⟨r_26, 0 + tk * 5, none⟩), .bool false, .pointer (some ⟨r_26, 0 + tk * 5, none⟩), .pointer (some ⟨r_26, 0 + tk * 5 + 3, none⟩)] ?_))))))))
        refine K.l (K.OW.grst 5 (0 + tk * 5 + 3) [.bool false] ((cs_43.set tk [.pointer u_457, .pointer v_458, .pointer w_459, .bool false, .int .u64 h0.at_]).flatten) hS o_467 ?_ (by show _ + 1 ≤ _; omega) (K.set_at0 (j := 3) hcs_44 hall_45 rfl htl_46 (Nat.le_of_ble_eq_true rfl) rfl))
        clear hS; intro w l_567 o_568 hS
        replace hS : K.Sat w0 [gl_18, l_469, g_468, g2_462, hg_41, l_567, hA_40, hB_42, m_20, g_2, fr] w := hS
        refine K.z (K.t (K.s ?_))
        have hd_569 : K.Hands (handEl b_13) 58 5 (l_567 ++ (hA_40 ++ ([g_468].flatten ++ hB_42))) ((some ⟨r_26, 0, none⟩)) (hs.set tk (⟨(stepE c ((lns c).toNat) (newE 2 ((tk : Nat) : Int)) M).1, false, h0.at_⟩ : HandE)) := hcl_50 _ _ _ [.pointer u_457, .pointer v_458, .pointer w_459, .bool false, .int .u64 h0.at_] rfl ⟨_, _, _, rfl, by simpa using h_470⟩ o_568
        replace hS : K.Sat w0 [(l_567 ++ (hA_40 ++ ([g_468].flatten ++ hB_42))), gl_18, l_469, g2_462, m_20, g_2, fr] w := (hS.pick [5, 6, 2, 7, 0, 1, 3, 8, 9, 10]).of (by simp [K.pick, K.nth])
        generalize (l_567 ++ (hA_40 ++ ([g_468].flatten ++ hB_42))) = ld_570 at hS hd_569
        have hI_571 : HInv c (lns c).toNat (hs.set tk (⟨(stepE c ((lns c).toNat) (newE 2 ((tk : Nat) : Int)) M).1, false, h0.at_⟩ : HandE)) (stepE c ((lns c).toNat) (newE 2 ((tk : Nat) : Int)) M).2 e' (j + 1) := by have h := hnext false hin'; rwa [if_neg (fun h => by cases h.1)] at h
        have hlen2 := hI_571.len
        have heb2 := hI_571.eb
        refine K.g (K.q [.int .i64 0] (K.z (K.t ?_)))
        refine K.KW.block ?_
        refine K.KW.loop (fun m_ F_ w_ => ∃ (k : Nat) (hd2 : K.Cs), m_ = c.th.toNat - k ∧ K.Sl F_ [(0, .agg #[.int .i64 c.th, .int .i64 c.sl, .int .i64 c.lo, .int .i64 c.bu]), (1, .slice (some ⟨b_37, of_38, none⟩) xs.length cap), (2, .pointer (some ⟨r_1, 0, none⟩)), (5, .pointer (some ⟨b_13, 0, none⟩)), (6, .pointer (some ⟨p_14, 0, none⟩)), (8, .bool true), (9, .slice (some ⟨r_26, 0, none⟩) c.th.toNat c.th.toNat), (10, .int .i64 ((j : Nat) : Int)), (14, .int .u64 e'), (18, .int .i64 ((k : Nat) : Int)), (148, undef)] ∧ k ≤ c.th.toNat ∧ K.Hands (handEl b_13) 58 5 hd2 ((some ⟨r_26, 0, none⟩)) (hs.set tk (⟨(stepE c ((lns c).toNat) (newE 2 ((tk : Nat) : Int)) M).1, false, h0.at_⟩ : HandE)) ∧ K.Sat w0 [hd2, gl_18, l_469, g2_462, m_20, g_2, fr] w_) ((fun (k : Nat) => c.th.toNat - k) 0) ?_ ?_
        ·
         exact ⟨0, ld_570, rfl, ⟨by rfl, by rfl, by rfl, by rfl, by rfl, by rfl, by rfl, by rfl, by rfl, by rfl, by rfl, trivial⟩, (by omega), hd_569, hS.pick [0, 1, 2, 3, 4, 5, 6]⟩
        ·
         clear hS
         intro m_572 F_573 w hI
         obtain ⟨k, hd2, rfl, sl_574, p_575, x_576, hS⟩ := hI
         rw [← K.Sl.puts sl_574]; clear sl_574
         refine K.s (K.s (K.g (K.q [.int .i64 ((k : Nat) : Int), .slice (some ⟨r_26, 0, none⟩) c.th.toNat c.th.toNat] ?_)))
         refine K.a (K.QR.len (P := Try.prog) rfl rfl Try.underlying51) ?_
         by_cases h_577 : (((k : Nat) : Int) : Int) < (((c.th.toNat : Nat) : Int) : Int)
         ·
          refine K.y ((((k : Nat) : Int) : Int) < (((c.th.toNat : Nat) : Int) : Int)) h_577 ?_
          refine K.z (K.t (K.h (K.k (K.t (K.s ?_)))))
          refine K.KW.block ?_
          refine K.s ?_
          obtain ⟨h1, hk1⟩ := hs_at (hs := (hs.set tk (⟨(stepE c ((lns c).toNat) (newE 2 ((tk : Nat) : Int)) M).1, false, h0.at_⟩ : HandE))) (t := k) (by omega)
          have hat1 := hI_571.at_ k _ hk1
          obtain ⟨row_578, hA_579, hg_580, hB_581, cs_582, rfl, hcs_583, hall_584, htl_585, hct_586, hel_587, how_588, hcl_589⟩ := x_576.open_ k h1 hk1
          replace hS : K.Sat w0 [row_578, hA_579, hg_580, hB_581, gl_18, l_469, g2_462, m_20, g_2, fr] w := hS.of
          obtain ⟨u2, v2, w2, hce2, hmx2⟩ := hel_587
          rw [hce2] at how_588
          replace hS : K.Sat w0 [row_578, hA_579, hg_580, hB_581, gl_18, l_469, g2_462, m_20, g_2, fr] w := hS.of (by simp [K.pick, K.nth])
          refine K.g (K.q [.slice (some ⟨r_26, 0, none⟩) c.th.toNat c.th.toNat, .int .i64 ((k : Nat) : Int)] ?_)
          refine K.a (K.QR.ix (0 + k * 5) 5 rfl rfl rfl Try.underlying51 (by kernel_rfl) (by omega) (by first | (simp; done) | omega | (simp; omega))) ?_
          refine K.q [.pointer (some ⟨r_26, 0 + k * 5 + 3, none⟩)] ?_
          refine K.d (.bool h1.inn) (K.row_at0 (j := 3) (hS.ownr 0 rfl how_588) hcs_583 hall_584 rfl htl_585 rfl) ?_
          cases hb_590 : h1.inn
          ·
           refine K.q [.bool false] ?_
           refine K.RW.skip rfl (by kernel_rfl) ?_
           refine K.RW.skip rfl (by kernel_rfl) ?_
           refine K.RW.skip rfl (by kernel_rfl) ?_
           refine K.RW.skip rfl (by kernel_rfl) ?_
           refine K.RW.skip rfl (by kernel_rfl) ?_
           refine K.RW.skip rfl (by kernel_rfl) ?_
           refine K.RW.skip rfl (by kernel_rfl) ?_
           refine K.RW.skip rfl (by kernel_rfl) ?_
           refine K.q [.bool false] (K.z (K.t (K.f (K.k ?_))))
           refine K.blk_normal ?_
           refine K.t ?_
           have hd_591 : K.Hands (handEl b_13) 58 5 (row_578 ++ (hA_579 ++ ([hg_580].flatten ++ hB_581))) ((some ⟨r_26, 0, none⟩)) ((hs.set tk (⟨(stepE c ((lns c).toNat) (newE 2 ((tk : Nat) : Int)) M).1, false, h0.at_⟩ : HandE)).set k h1) := hcl_589 _ _ _ [.pointer u2, .pointer v2, .pointer w2, .bool h1.inn, .int .u64 h1.at_] rfl ⟨_, _, _, rfl, by simpa using hmx2⟩ how_588
           replace hS : K.Sat w0 [(row_578 ++ (hA_579 ++ ([hg_580].flatten ++ hB_581))), gl_18, l_469, g2_462, m_20, g_2, fr] w := (hS.pick [0, 1, 2, 3, 4, 5, 6, 7, 8, 9]).of (by simp [K.pick, K.nth])
           generalize (row_578 ++ (hA_579 ++ ([hg_580].flatten ++ hB_581))) = ld_592 at hS hd_591
           rw [K.hs_self hk1] at hd_591
           refine K.g (K.q [.int .i64 ((k : Nat) : Int)] ?_)
           refine K.a (K.QR.n64 ((((k : Nat) : Int) : Int) + (1 : Int)) ((k + 1 : Nat) : Int) (by kernel_rfl) (by omega)) ?_
           refine K.q [.int .i64 ((k + 1 : Nat) : Int)] (K.z (K.t ?_))
           refine ⟨_, ?_, k + 1, ld_592, rfl, ⟨by rfl, by rfl, by rfl, by rfl, by rfl, by rfl, by rfl, by rfl, by rfl, by rfl, by rfl, trivial⟩, (by omega), hd_591, hS.pick [0, 1, 2, 3, 4, 5, 6]⟩
           omega
          ·
           refine K.q [.bool true, .int .u64 e', .slice (some ⟨r_26, 0, none⟩) c.th.toNat c.th.toNat, .int .i64 ((k : Nat) : Int)] ?_
           refine K.a (K.QR.ix (0 + k * 5) 5 rfl rfl rfl Try.underlying51 (by kernel_rfl) (by omega) (by first | (simp; done) | omega | (simp; omega))) ?_
           refine K.q [.pointer (some ⟨r_26, 0 + k * 5 + 4, none⟩)] ?_
           refine K.d (.int .u64 h1.at_) (K.row_at0 (j := 4) (hS.ownr 0 rfl how_588) hcs_583 hall_584 rfl htl_585 rfl) ?_
           refine K.a (K.QR.nu64 ((h1.at_ : Int) + (1 : Int)) ((h1.at_ : Int) + (1 : Int)) (by kernel_rfl) (by have h := hat1 hb_590; omega)) ?_
           refine K.x ((e' : Int) > ((h1.at_ : Int) + (1 : Int) : Int)) (by have h := hat1 hb_590; omega) ?_
           refine K.q [.bool false] (K.z (K.t (K.f (K.k ?_))))
           refine K.blk_normal ?_
           refine K.t ?_
           have hd_593 : K.Hands (handEl b_13) 58 5 (row_578 ++ (hA_579 ++ ([hg_580].flatten ++ hB_581))) ((some ⟨r_26, 0, none⟩)) ((hs.set tk (⟨(stepE c ((lns c).toNat) (newE 2 ((tk : Nat) : Int)) M).1, false, h0.at_⟩ : HandE)).set k h1) := hcl_589 _ _ _ [.pointer u2, .pointer v2, .pointer w2, .bool h1.inn, .int .u64 h1.at_] rfl ⟨_, _, _, rfl, by simpa using hmx2⟩ how_588
           replace hS : K.Sat w0 [(row_578 ++ (hA_579 ++ ([hg_580].flatten ++ hB_581))), gl_18, l_469, g2_462, m_20, g_2, fr] w := (hS.pick [0, 1, 2, 3, 4, 5, 6, 7, 8, 9]).of (by simp [K.pick, K.nth])
           generalize (row_578 ++ (hA_579 ++ ([hg_580].flatten ++ hB_581))) = ld_594 at hS hd_593
           rw [K.hs_self hk1] at hd_593
           refine K.g (K.q [.int .i64 ((k : Nat) : Int)] ?_)
           refine K.a (K.QR.n64 ((((k : Nat) : Int) : Int) + (1 : Int)) ((k + 1 : Nat) : Int) (by kernel_rfl) (by omega)) ?_
           refine K.q [.int .i64 ((k + 1 : Nat) : Int)] (K.z (K.t ?_))
           refine ⟨_, ?_, k + 1, ld_594, rfl, ⟨by rfl, by rfl, by rfl, by rfl, by rfl, by rfl, by rfl, by rfl, by rfl, by rfl, by rfl, trivial⟩, (by omega), hd_593, hS.pick [0, 1, 2, 3, 4, 5, 6]⟩
           omega
         ·
          refine K.x ((((k : Nat) : Int) : Int) < (((c.th.toNat : Nat) : Int) : Int)) h_577 ?_
          refine K.z (K.t (K.f ?_))
          refine K.KW.exit ?_
          refine K.thn_exit ?_
          refine K.thn_exit ?_
          refine K.blk_hit ?_
          refine K.blk_normal ?_
          refine K.t (K.g (K.q [.int .i64 ((j : Nat) : Int)] ?_))
          refine K.a (K.QR.n64 ((((j : Nat) : Int) : Int) + (1 : Int)) ((j + 1 : Nat) : Int) (by kernel_rfl) (by omega)) ?_
          refine K.q [.int .i64 ((j + 1 : Nat) : Int)] (K.z (K.t ?_))
          refine ⟨_, ?_, j + 1, (hs.set tk (⟨(stepE c ((lns c).toNat) (newE 2 ((tk : Nat) : Int)) M).1, false, h0.at_⟩ : HandE)), ((stepE c ((lns c).toNat) (newE 2 ((tk : Nat) : Int)) M).2), e', hd2, l_469, rfl, ⟨by rfl, by rfl, by rfl, by rfl, by rfl, by rfl, by rfl, by rfl, by rfl, trivial⟩, (by omega), (hI_571), x_576, x_471, hS.pick [0, 1, 2, 4, 5, 6]⟩
          omega
    ·
     refine K.x ((((j : Nat) : Int) : Int) < (((xs.length : Nat) : Int) : Int)) h_36 ?_
     refine K.z (K.t (K.f ?_))
     refine K.KW.exit ?_
     refine K.thn_exit ?_
     refine K.thn_exit ?_
     refine K.blk_hit ?_
     refine K.t (K.s (K.g ?_))
     refine K.l (K.OW.gcall hS [] [0, 1, 2, 3, 4, 5] [] (awake10_ok _) ?_)
     clear hS; rintro _ _ w ⟨rfl, rfl⟩ hS
     replace hS : K.Sat w0 [hd1, gl_18, l1, m_20, g_2, fr] w := hS
     refine K.q [.bool true, .bool true, .bool true, .bool true] (K.z (K.t (K.r ?_)))
     refine ⟨.inr rfl, rfl, (.bool true), K.res1 rfl rfl, [], ?_, hS.pick [5]⟩
     exact rfl
 ·
  replace hS : K.Sat w0 [g_2, fr] w := hS
  refine K.q [.bool true, .bool true] ?_
  refine K.RW.skip rfl (by kernel_rfl) ?_
  refine K.RW.skip rfl (by kernel_rfl) ?_
  refine K.RW.skip rfl (by kernel_rfl) ?_
  refine K.q [.bool true] (K.z (K.t (K.h (K.s (K.g ?_)))))
  refine K.l (K.OW.gcall hS [] [0, 1] [] (awake10_ok _) ?_)
  clear hS; rintro _ _ w ⟨rfl, rfl⟩ hS
  replace hS : K.Sat w0 [g_2, fr] w := hS
  refine K.q [.bool true] (K.z (K.t (K.r (K.u ?_))))
  refine ⟨.inr rfl, rfl, (.bool true), K.res1 rfl rfl, [], ?_, hS.pick [1]⟩
  exact rfl

end Go.Proofs.Ytajkickofkeemaa
