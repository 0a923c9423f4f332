/- The statement EpochOne. -/
import Derived.Test.YtajkickofkeemaaFl10b
import Derived.Test.YtajkickofkeemaaKn
namespace Go.Proofs.Ytajkickofkeemaa
open Go.RowKit
set_option linter.unusedVariables false
attribute [local irreducible] K.KW K.RW K.DW K.OW K.QR K.KC

set_option maxHeartbeats 1000000 in
set_option maxRecDepth 100000 in
theorem l10one_ok (w0 : World) (c : Cfg) (first : Int) (hfirst : 0 ≤ first ∧ first ≤ 4294967295) (a : Option Addr) (cap : Nat) (xs : List Int) (hx8 : ∀ i, i < xs.length → 0 ≤ xs.getD i 0 ∧ xs.getD i 0 ≤ 255) (hm : xs.length ≤ 9223372036854775807) (hx : K.RowE w0 a xs.length 1 (fun i => cU8 (xs.getD i 0))) :
  K.GC Try.prog w0 3 #[.agg #[.int .i64 c.th, .int .i64 c.sl, .int .i64 c.lo, .int .i64 c.bu], .int .u32 first, .slice a xs.length cap] [] (fun v post => v = .bool true) := by
 refine K.GC.mk (n := 96) Try.func3 rfl rfl [.agg #[.int .i64 c.th, .int .i64 c.sl, .int .i64 c.lo, .int .i64 c.bu], .int .u32 first, .slice a xs.length cap] rfl rfl ?_
 intro fr w hS
 replace hS : K.Sat w0 [fr] w := hS
 refine K.s (K.g ?_)
 refine K.l (K.OW.gnew 23 [.int .i64 c.th, .int .i64 c.sl, .int .i64 c.lo, .int .i64 c.bu] hS ?_)
 clear hS; intro w r_1 g_2 hg_3 hS
 refine K.q [.bool false] (K.z (K.t (K.s (K.s (K.g ?_)))))
 refine K.a (K.QR.ldN [.int .i64 c.th, .int .i64 c.sl, .int .i64 c.lo, .int .i64 c.bu] rfl rfl (by kernel_rfl) (by kernel_rfl) (K.cells (K.cl ((hS.blk 0 rfl hg_3).cell rfl) (K.cl ((hS.blk 0 rfl hg_3).cell rfl) (K.cl ((hS.blk 0 rfl hg_3).cell rfl) (K.cl ((hS.blk 0 rfl hg_3).cell rfl) K.cl0)))))) ?_
 refine K.l (K.OW.gcall hS [] [0, 1] [.agg #[.int .i64 c.th, .int .i64 c.sl, .int .i64 c.lo, .int .i64 c.bu]] (few09_ok _ c) ?_)
 clear hS; rintro _ _ w ⟨rfl, (⟨rfl, h_4⟩ | ⟨rfl, h_5⟩)⟩ hS
 ·
  replace hS : K.Sat w0 [g_2, fr] w := hS
  have hc_6 := h_4.1
  obtain ⟨hf_7, hf_8, hf_9, hf_10, hf_11⟩ := (show _ from (by have h := h_4; unfold fewC cfgOk at h; exact h))
  refine K.q [.bool false, .bool false, .slice a xs.length cap] ?_
  refine K.a (K.QR.len (P := Try.prog) rfl rfl Try.underlying25) ?_
  by_cases h_12 : (((xs.length : Nat) : Int) : Int) > (300 : Int)
  ·
   refine K.y ((((xs.length : Nat) : Int) : Int) > (300 : Int)) h_12 ?_
   refine K.q [.bool true] (K.z (K.t (K.h (K.s (K.g ?_)))))
   refine K.l (K.OW.gcall hS [] [0, 1] [] (awake10_ok _) ?_)
   clear hS; rintro _ _ w ⟨rfl, rfl⟩ hS
   replace hS : K.Sat w0 [g_2, fr] w := hS
   refine K.q [.bool true] (K.z (K.t (K.r (K.u ?_))))
   refine ⟨.inr rfl, rfl, (.bool true), K.res1 rfl rfl, [], ?_, hS.pick [1]⟩
   exact rfl
  ·
   refine K.x ((((xs.length : Nat) : Int) : Int) > (300 : Int)) h_12 ?_
   refine K.q [.bool false] (K.z (K.t (K.f (K.k (K.t (K.s (K.g ?_)))))))
   refine K.a (K.QR.ldN [.int .i64 c.th, .int .i64 c.sl, .int .i64 c.lo, .int .i64 c.bu] rfl rfl (by kernel_rfl) (by kernel_rfl) (K.cells (K.cl ((hS.blk 0 rfl hg_3).cell rfl) (K.cl ((hS.blk 0 rfl hg_3).cell rfl) (K.cl ((hS.blk 0 rfl hg_3).cell rfl) (K.cl ((hS.blk 0 rfl hg_3).cell rfl) K.cl0)))))) ?_
   refine K.q [.int .u32 first] ?_
   refine K.a (K.QR.nice (v := .int .u64 (IntKind.u64.wrap first)) (by kernel_rfl) (congrArg (Value.int .u64) (IntWalk.u64_in _ (by omega)))) ?_
   refine K.a (K.QR.bd [(0, .int .i64 (-1)), (1, .int .u64 first)] [.int .i64 (-1), .int .u64 first] rfl rfl (by kernel_rfl)) ?_
   refine K.l (K.OW.gbs [(0, .agg #[.int .i64 (-1), .int .u64 first])] [.int .i64 (-1), .int .u64 first] hS (fun w => K.bs_run (P := Try.prog) w 35 34 1 _ _ Try.underlying35 (by kernel_rfl)) ?_)
   clear hS; intro w r_13 g_14 hg_15 hS
   refine K.a (K.QR.bd [(0, .agg #[.int .i64 c.th, .int .i64 c.sl, .int .i64 c.lo, .int .i64 c.bu]), (1, .slice (some ⟨r_13, 0, none⟩) 1 1)] [.int .i64 c.th, .int .i64 c.sl, .int .i64 c.lo, .int .i64 c.bu, .slice (some ⟨r_13, 0, none⟩) 1 1] rfl rfl (by kernel_rfl)) ?_
   refine K.l (K.OW.gcall hS [0] [1, 2] [.agg #[.int .i64 c.th, .int .i64 c.sl, .int .i64 c.lo, .int .i64 c.bu, .slice (some ⟨r_13, 0, none⟩) 1 1]] (layS_ok _ c _ _ [(⟨(-1), first⟩ : PutM)] (fun j hj => by have : j = 0 := (by simp at hj; omega); subst this; show isInt (-1); omega) (⟨by assumption, by simp⟩) _ (fun w h => K.Blk.rowE (c := cPut) pu0 (L := [(⟨(-1), first⟩ : PutM)]) (h.blk 0 rfl hg_15) (fun _ => rfl) rfl)) ?_)
   clear hS; rintro _ _ w ⟨b_16, p_17, q_18, r_19, u_20, _, _, gl_21, l_22, m_23, rfl, rfl, hl_24, x_25, y_26, rfl, rfl, hf_27, hp_28⟩ hS
   replace hS : K.Sat w0 [g_14, gl_21, l_22, m_23, g_2, fr] w := hS
   have hM0 : (groundM ((lns c).toNat) (c.th.toNat) (2 + c.th + c.sl).toNat [(⟨(-1), first⟩ : PutM)]).good := ground1_good (by unfold isW; omega)
   have hp0 : (groundM ((lns c).toNat) (c.th.toNat) (2 + c.th + c.sl).toNat [(⟨(-1), first⟩ : PutM)]).peek ((lns c).toNat) (-1) = some first := one_peek (by omega)
   generalize groundM ((lns c).toNat) (c.th.toNat) (2 + c.th + c.sl).toNat [(⟨(-1), first⟩ : PutM)] = M0 at x_25 hM0 hp0
   refine K.q [.tuple #[.pointer (some ⟨b_16, 0, none⟩), .pointer (some ⟨p_17, 0, none⟩), .pointer (some ⟨r_19, 0, none⟩), .bool true], .pointer (some ⟨b_16, 0, none⟩), .pointer (some ⟨p_17, 0, none⟩), .pointer (some ⟨r_19, 0, none⟩), .bool true, .pointer (some ⟨b_16, 0, none⟩), .pointer (some ⟨p_17, 0, none⟩), .pointer (some ⟨r_19, 0, none⟩), .bool true] (K.z (K.t (K.s (K.g (K.q [.pointer (some ⟨r_1, 0, none⟩)] ?_)))))
   refine K.a (K.QR.turn (v := .int .i64 c.th) (K.QR.ld1 (v := .int .i64 c.th) rfl rfl (by kernel_rfl) ((hS.blk 4 rfl hg_3).cell rfl)) (congrArg (Value.int .i64) (show (c.th : Int) = (((c.th.toNat : Nat) : Int) : Int) from by omega))) ?_
   refine K.l (K.OW.gmk (P := Try.prog) (m := c.th.toNat) (cc := cVal) (z := .pointer none) (size := 1) (bytes := 8) (.pointer none : Value) hS ?_ Try.underlying39 (by kernel_rfl) rfl rfl (by unfold maxLen; omega) (by omega))
   clear hS; intro w r_29 l_30 o_31 hS
   refine K.q [.slice (some ⟨r_29, 0, none⟩) c.th.toNat c.th.toNat] (K.z (K.t (K.s (K.g (K.q [.int .u64 0] (K.z (K.t (K.s (K.s (K.g (K.q [.int .i64 0] (K.z (K.t ?_)))))))))))))
   refine K.KW.block ?_
   have hd_32 : K.Hands (advEl b_16) 40 1 l_30 ((some ⟨r_29, 0, none⟩)) (List.replicate c.th.toNat none) := K.Hands.init (by have h := o_31; rwa [K.rep_flat] at h) rfl ⟨rfl, rfl⟩
   refine K.KW.loop (fun m_ F_ w_ => ∃ (j : Nat) (mv : Nat) (hs : List (Option AdvS)) (M : MemM) (hd1 : K.Cs) (l1 : K.Cs), m_ = xs.length - j ∧ K.Sl F_ [(0, .agg #[.int .i64 c.th, .int .i64 c.sl, .int .i64 c.lo, .int .i64 c.bu]), (1, .int .u32 first), (2, .slice a xs.length cap), (3, .pointer (some ⟨r_1, 0, none⟩)), (7, .pointer (some ⟨b_16, 0, none⟩)), (8, .pointer (some ⟨p_17, 0, none⟩)), (10, .bool true), (11, .slice (some ⟨r_29, 0, none⟩) c.th.toNat c.th.toNat), (12, .int .u64 ((mv : Nat) : Int)), (13, .int .i64 ((j : Nat) : Int)), (96, undef)] ∧ j ≤ xs.length ∧ mv ≤ j ∧ hs.length = c.th.toNat ∧ oneOk hs ∧ M.good ∧ M.peek (lns c).toNat (-1) = some (first + (mv : Int)) ∧ K.Hands (advEl b_16) 40 1 hd1 ((some ⟨r_29, 0, none⟩)) hs ∧ MemAt l1 p_17 q_18 ((lns c).toNat) (c.th.toNat) M ∧ K.Sat w0 [hd1, g_14, gl_21, l1, m_23, g_2, fr] w_) ((fun (j : Nat) (mv : Nat) (hs : List (Option AdvS)) (M : MemM) => xs.length - j) 0 0 (List.replicate c.th.toNat none) M0) ?_ ?_
   ·
    exact ⟨0, 0, (List.replicate c.th.toNat none), M0, l_30, l_22, rfl, ⟨by rfl, by rfl, by rfl, by rfl, by rfl, by rfl, by rfl, by rfl, by rfl, by rfl, by rfl, trivial⟩, (by omega), (by omega), (List.length_replicate), (oneOk_rep _), (hM0), (by rw [hp0]; simp), hd_32, x_25, hS.pick [0, 1, 2, 3, 4, 5, 6]⟩
   ·
    clear hS
    intro m_33 F_34 w hI
    obtain ⟨j, mv, hs, M, hd1, l1, rfl, sl_35, p_36, p_37, hhs, hok, hM, hpk, x_38, x_39, hS⟩ := hI
    rw [← K.Sl.puts sl_35]; clear sl_35
    refine K.s (K.s (K.g (K.q [.int .i64 ((j : Nat) : Int), .slice a xs.length cap] ?_)))
    refine K.a (K.QR.len (P := Try.prog) rfl rfl Try.underlying25) ?_
    by_cases h_40 : (((j : Nat) : Int) : Int) < (((xs.length : Nat) : Int) : Int)
    ·
     refine K.y ((((j : Nat) : Int) : Int) < (((xs.length : Nat) : Int) : Int)) h_40 ?_
     refine K.z (K.t (K.h (K.k (K.t (K.s ?_)))))
     refine K.KW.block ?_
     refine K.s ?_
     have hx8j := hx8 j (by omega)
     have hrl : 0 ≤ ((xs.getD j 0 : Int)) % ((c.th : Int)) ∧ ((xs.getD j 0 : Int)) % ((c.th : Int)) < (c.th : Int) := ⟨Int.emod_nonneg _ (by omega), Int.emod_lt_of_pos _ (by omega)⟩
     obtain ⟨tk, htk⟩ : ∃ q : Nat, (((xs.getD j 0 : Int)) % ((c.th : Int)) : Int) = q := ⟨(((xs.getD j 0 : Int)) % ((c.th : Int)) : Int).toNat, by omega⟩
     obtain ⟨b_41, of_42, rfl, _⟩ := hx.at_ (by omega)
     refine K.KW.gdrawn [] hS (by kernel_rfl) ?_
     clear hS; intro w hS
     refine K.DW.q 0 (by kernel_rfl) rfl rfl (by kernel_rfl) rfl (fun w hS => K.QR.k (v := .slice (some ⟨b_41, of_42, none⟩) xs.length cap) (by kernel_rfl)) (hS.pick []) ?_
     refine K.DW.q 1 (by kernel_rfl) rfl rfl (by kernel_rfl) rfl (fun w hS => K.QR.k (v := .int .i64 ((j : Nat) : Int)) (by kernel_rfl)) (hS.pick []) ?_
     refine K.DW.q 2 (by kernel_rfl) rfl rfl (by kernel_rfl) rfl (fun w hS => K.QR.ix (of_42 + j * 1) 1 rfl rfl rfl Try.underlying25 (by kernel_rfl) (by omega) (by first | (simp; done) | omega | (simp; omega))) (hS.pick []) ?_
     refine K.DW.q 3 (by kernel_rfl) rfl rfl (by kernel_rfl) rfl (fun w hS => K.QR.ld1 (v := .int .u8 (xs.getD j 0)) rfl rfl (by kernel_rfl) ((hx.no hS.chg).ld j (by omega) 0 _ rfl)) (hS.pick []) ?_
     refine K.DW.q 4 (by kernel_rfl) rfl rfl (by kernel_rfl) rfl (fun w hS => K.QR.nice (v := .int .i64 (IntKind.i64.wrap (xs.getD j 0))) (by kernel_rfl) (congrArg (Value.int .i64) (IntWalk.i64_in _ (by omega)))) (hS.pick []) ?_
     refine K.DW.l 5 rfl (by kernel_rfl) rfl (K.OW.q rfl (K.QR.k (v := .pointer (some ⟨r_1, 0, none⟩)) (by kernel_rfl)) ?_)
     refine ⟨.inl (hS.pick []), ?_⟩
     refine K.DW.l 6 rfl (by kernel_rfl) rfl (K.OW.q rfl (K.QR.ld1 (v := .int .i64 c.th) rfl rfl (by kernel_rfl) ((hS.blk 5 rfl hg_3).cell rfl)) ?_)
     refine ⟨.inl (hS.pick []), ?_⟩
     refine K.DW.l 7 rfl (by kernel_rfl) rfl (K.OW.q rfl (K.QR.remV rfl rfl rfl (by omega) (by omega) htk) ?_)
     refine ⟨.inl (hS.pick []), ?_⟩
     refine K.DW.l 8 rfl (by kernel_rfl) rfl (K.OW.q rfl (K.QR.k (v := .int .i64 ((tk : Nat) : Int)) (by kernel_rfl)) ?_)
     refine ⟨.inl (hS.pick []), ?_⟩
     refine K.DW.done (by kernel_rfl) ?_
     refine K.t (K.s (K.s ?_))
     obtain ⟨So, hSo⟩ := hs_at (hs := hs) (t := tk) (by omega)
     cases So with
     | none =>
      obtain ⟨row_43, hA_44, hg_45, hB_46, cs_47, rfl, hcs_48, hall_49, htl_50, hct_51, hel_52, how_53, hcl_54⟩ := x_38.open_ tk none hSo
      replace hS : K.Sat w0 [row_43, hA_44, hg_45, hB_46, g_14, gl_21, l1, m_23, g_2, fr] w := hS.of
      obtain ⟨hce, _⟩ := hel_52
      rw [hce] at how_53
      refine K.g (K.q [.slice (some ⟨r_29, 0, none⟩) c.th.toNat c.th.toNat, .int .i64 ((tk : Nat) : Int)] ?_)
      refine K.a (K.QR.ix tk 1 rfl rfl rfl Try.underlying39 (by kernel_rfl) (by omega) (by first | (simp; done) | omega | (simp; omega))) ?_
      refine K.d (.pointer none) (K.row_at1 (hS.ownr 0 rfl how_53) hcs_48 hall_49 rfl htl_50 rfl) ?_
      refine K.l (K.OW.gcall hS [] [0, 1, 2, 3, 4, 5, 6, 7, 8, 9] [.pointer none] (advDone_nil _ ) ?_)
      clear hS; rintro _ _ w ⟨rfl, rfl⟩ hS
      replace hS : K.Sat w0 [row_43, hA_44, hg_45, hB_46, g_14, gl_21, l1, m_23, g_2, fr] w := hS
      refine K.z (K.t (K.h (K.g (K.q [.slice (some ⟨r_29, 0, none⟩) c.th.toNat c.th.toNat, .int .i64 ((tk : Nat) : Int), .pointer (some ⟨b_16, 0, none⟩), .int .i64 ((tk : Nat) : Int)] ?_))))
      refine K.l (K.OW.gcall hS [] [0, 1, 2, 3, 4, 5, 6, 7, 8, 9] [.pointer (some ⟨b_16, 0, none⟩), .int .i64 ((tk : Nat) : Int)] (newadv_ok _ _ ((tk : Nat) : Int)) ?_)
      clear hS; rintro _ _ w ⟨p_55, g_56, rfl, rfl, h_57⟩ hS
      replace hS : K.Sat w0 [g_56, row_43, hA_44, hg_45, hB_46, g_14, gl_21, l1, m_23, g_2, fr] w := hS
      have hS_58 : AdvS.good (⟨((tk : Nat) : Int), false, 0, 0, 0, false⟩ : AdvS) := ⟨(by omega : isInt ((tk : Nat) : Int)), isW00, ⟨Int.le_refl _, (by decide : (0 : Int) ≤ 64)⟩, .inr (.inl ⟨rfl, rfl⟩)⟩
      refine K.a (K.QR.ix tk 1 rfl rfl rfl Try.underlying39 (by kernel_rfl) (by omega) (by first | (simp; done) | omega | (simp; omega))) ?_
      refine K.l (K.OW.grst 1 tk [.pointer (some ⟨p_55, 0, none⟩)] ((cs_47.set tk [.pointer (some ⟨p_55, 0, none⟩)]).flatten) hS how_53 ?_ (by show _ + 1 ≤ _; omega) (K.set_at1 hcs_48 hall_49 rfl htl_50 rfl))
      clear hS; intro w l_59 o_60 hS
      replace hS : K.Sat w0 [g_56, l_59, hA_44, hg_45, hB_46, g_14, gl_21, l1, m_23, g_2, fr] w := hS
      refine K.z (K.t (K.s (K.s ?_)))
      have hnd : (⟨((tk : Nat) : Int), false, 0, 0, 0, false⟩ : AdvS).done = false := rfl
      have hnm : (⟨((tk : Nat) : Int), false, 0, 0, 0, false⟩ : AdvS).moved = false := rfl
      refine K.g (K.q [.slice (some ⟨r_29, 0, none⟩) c.th.toNat c.th.toNat, .int .i64 ((tk : Nat) : Int)] ?_)
      refine K.a (K.QR.ix tk 1 rfl rfl rfl Try.underlying39 (by kernel_rfl) (by omega) (by first | (simp; done) | omega | (simp; omega))) ?_
      refine K.d (.pointer (some ⟨p_55, 0, none⟩)) (K.row_at1 (hS.ownr 1 rfl o_60) hcs_48 hall_49 rfl htl_50 rfl) ?_
      refine K.q [.pointer (some ⟨p_17, 0, none⟩)] ?_
      refine K.l (K.OW.gcall hS [0, 6, 7] [1, 2, 3, 4, 5, 8, 9, 10] [.pointer (some ⟨p_55, 0, none⟩), .pointer (some ⟨p_17, 0, none⟩)] (advStep_ok _ _ _ _ _ _ _ c (by first | assumption | (unfold cfgOk; decide)) (⟨((tk : Nat) : Int), false, 0, 0, 0, false⟩ : AdvS) M _ _ _ h_57 hl_24 x_39 (by assumption) (by assumption)) ?_)
      clear hS; rintro _ _ w ⟨g_61, l_62, rfl, rfl, h_63, x_64⟩ hS
      replace hS : K.Sat w0 [g_61, gl_21, l_62, l_59, hA_44, hg_45, hB_46, g_14, m_23, g_2, fr] w := hS
      obtain ⟨hS_65, hM_66⟩ := (advStep_good (by first | assumption | (unfold cfgOk; decide)) (by assumption) (by assumption) : (advStep c ((lns c).toNat) (⟨((tk : Nat) : Int), false, 0, 0, 0, false⟩ : AdvS) M).1.good ∧ (advStep c ((lns c).toNat) (⟨((tk : Nat) : Int), false, 0, 0, 0, false⟩ : AdvS) M).2.good)
      cases hb_67 : (advStep c ((lns c).toNat) (⟨((tk : Nat) : Int), false, 0, 0, 0, false⟩ : AdvS) M).1.done
      ·
       refine K.q [.bool false] ?_
       refine K.RW.skip rfl (by kernel_rfl) ?_
       refine K.RW.skip rfl (by kernel_rfl) ?_
       refine K.RW.skip rfl (by kernel_rfl) ?_
       refine K.RW.skip rfl (by kernel_rfl) ?_
       refine K.RW.skip rfl (by kernel_rfl) ?_
       refine K.q [.bool false] (K.z (K.t (K.f (K.k (K.t (K.s ?_))))))
       have hmf := advStep_nd hnd hnm hpk (by omega) hb_67
       refine K.g (K.q [.pointer (some ⟨p_17, 0, none⟩)] ?_)
       refine K.l (K.OW.gcall hS [2] [0, 1, 3, 4, 5, 6, 7, 8, 9, 10] [.pointer (some ⟨p_17, 0, none⟩), .int .i64 (-1)] (pkS_ok _ _ _ _ _ _ _ x_64 ((-1) : Int) (by first | omega | assumption | exact aft_int (by assumption) _ | exact ann_int (by assumption) _ (by first | omega | assumption)) (first + (mv : Int)) (advStep_nm hnd hnm hpk (by omega) hmf)) ?_)
       clear hS; rintro _ _ w ⟨rfl, rfl⟩ hS
       replace hS : K.Sat w0 [l_62, g_61, gl_21, l_59, hA_44, hg_45, hB_46, g_14, m_23, g_2, fr] w := hS
       refine K.q [.tuple #[.int .u64 (first + (mv : Int)), .bool true], .int .u64 (first + (mv : Int)), .bool true, .int .u64 (first + (mv : Int)), .bool true] (K.z (K.t (K.s (K.g (K.q [.int .u64 (first + (mv : Int)), .int .u32 first] ?_)))))
       refine K.a (K.QR.nice (v := .int .u64 (IntKind.u64.wrap first)) (by kernel_rfl) (congrArg (Value.int .u64) (IntWalk.u64_in _ (by omega)))) ?_
       refine K.q [.int .u64 ((mv : Nat) : Int)] ?_
       refine K.a (K.QR.nu64 ((first : Int) + (((mv : Nat) : Int) : Int)) ((first : Int) + (((mv : Nat) : Int) : Int)) (by kernel_rfl) (by omega)) ?_
       refine K.xn ((first + (mv : Int)) : Int) ((first : Int) + (((mv : Nat) : Int) : Int) : Int) (by omega) ?_
       refine K.z (K.t (K.f (K.k ?_)))
       refine K.blk_normal ?_
       refine K.t (K.g (K.q [.int .i64 ((j : Nat) : Int)] ?_))
       refine K.a (K.QR.n64 ((((j : Nat) : Int) : Int) + (1 : Int)) ((j + 1 : Nat) : Int) (by kernel_rfl) (by omega)) ?_
       refine K.q [.int .i64 ((j + 1 : Nat) : Int)] (K.z (K.t ?_))
       have hd_68 : K.Hands (advEl b_16) 40 1 (l_59 ++ (hA_44 ++ ([g_61].flatten ++ hB_46))) ((some ⟨r_29, 0, none⟩)) (hs.set tk (some (advStep c ((lns c).toNat) (⟨((tk : Nat) : Int), false, 0, 0, 0, false⟩ : AdvS) M).1)) := hcl_54 _ _ _ [.pointer (some ⟨p_55, 0, none⟩)] rfl ⟨_, rfl, by simp [h_63]⟩ o_60
       replace hS : K.Sat w0 [(l_59 ++ (hA_44 ++ ([g_61].flatten ++ hB_46))), l_62, gl_21, g_14, m_23, g_2, fr] w := (hS.pick [3, 4, 1, 6, 0, 2, 7, 8, 9, 10]).of (by simp [K.pick, K.nth])
       generalize (l_59 ++ (hA_44 ++ ([g_61].flatten ++ hB_46))) = ld_69 at hS hd_68
       refine ⟨_, ?_, j + 1, mv, (hs.set tk (some (advStep c ((lns c).toNat) (⟨((tk : Nat) : Int), false, 0, 0, 0, false⟩ : AdvS) M).1)), ((advStep c ((lns c).toNat) (⟨((tk : Nat) : Int), false, 0, 0, 0, false⟩ : AdvS) M).2), ld_69, l_62, rfl, ⟨by rfl, by rfl, by rfl, by rfl, by rfl, by rfl, by rfl, by rfl, by rfl, by rfl, by rfl, trivial⟩, (by omega), (by omega), ((List.length_set).trans hhs), (oneOk_set hok (by assumption) (fun _ => hmf)), (by assumption), ((advStep_nm hnd hnm hpk (by omega) hmf).trans (by first | rfl | (congr 1; omega))), hd_68, x_64, hS.pick [0, 3, 2, 1, 4, 5, 6]⟩
       omega
      ·
       refine K.q [.bool true, .slice (some ⟨r_29, 0, none⟩) c.th.toNat c.th.toNat, .int .i64 ((tk : Nat) : Int)] ?_
       refine K.a (K.QR.ix tk 1 rfl rfl rfl Try.underlying39 (by kernel_rfl) (by omega) (by first | (simp; done) | omega | (simp; omega))) ?_
       refine K.d (.pointer (some ⟨p_55, 0, none⟩)) (K.row_at1 (hS.ownr 3 rfl o_60) hcs_48 hall_49 rfl htl_50 rfl) ?_
       refine K.l (K.OW.gcall hS [0] [1, 2, 3, 4, 5, 6, 7, 8, 9, 10] [.pointer (some ⟨p_55, 0, none⟩)] (advMoved_ok _ _ _ (advStep c ((lns c).toNat) (⟨((tk : Nat) : Int), false, 0, 0, 0, false⟩ : AdvS) M).1 _ h_63) ?_)
       clear hS; rintro _ _ w ⟨rfl, rfl⟩ hS
       replace hS : K.Sat w0 [g_61, gl_21, l_62, l_59, hA_44, hg_45, hB_46, g_14, m_23, g_2, fr] w := hS
       cases hb_70 : (advStep c ((lns c).toNat) (⟨((tk : Nat) : Int), false, 0, 0, 0, false⟩ : AdvS) M).1.moved
       ·
        refine K.q [.bool false] (K.z (K.t (K.f (K.k (K.t (K.s (K.g (K.q [.pointer (some ⟨p_17, 0, none⟩)] ?_))))))))
        refine K.l (K.OW.gcall hS [2] [0, 1, 3, 4, 5, 6, 7, 8, 9, 10] [.pointer (some ⟨p_17, 0, none⟩), .int .i64 (-1)] (pkS_ok _ _ _ _ _ _ _ x_64 ((-1) : Int) (by first | omega | assumption | exact aft_int (by assumption) _ | exact ann_int (by assumption) _ (by first | omega | assumption)) (first + (mv : Int)) (advStep_nm hnd hnm hpk (by omega) hb_70)) ?_)
        clear hS; rintro _ _ w ⟨rfl, rfl⟩ hS
        replace hS : K.Sat w0 [l_62, g_61, gl_21, l_59, hA_44, hg_45, hB_46, g_14, m_23, g_2, fr] w := hS
        refine K.q [.tuple #[.int .u64 (first + (mv : Int)), .bool true], .int .u64 (first + (mv : Int)), .bool true, .int .u64 (first + (mv : Int)), .bool true] (K.z (K.t (K.s (K.g (K.q [.int .u64 (first + (mv : Int)), .int .u32 first] ?_)))))
        refine K.a (K.QR.nice (v := .int .u64 (IntKind.u64.wrap first)) (by kernel_rfl) (congrArg (Value.int .u64) (IntWalk.u64_in _ (by omega)))) ?_
        refine K.q [.int .u64 ((mv : Nat) : Int)] ?_
        refine K.a (K.QR.nu64 ((first : Int) + (((mv : Nat) : Int) : Int)) ((first : Int) + (((mv : Nat) : Int) : Int)) (by kernel_rfl) (by omega)) ?_
        refine K.xn ((first + (mv : Int)) : Int) ((first : Int) + (((mv : Nat) : Int) : Int) : Int) (by omega) ?_
        refine K.z (K.t (K.f (K.k ?_)))
        refine K.blk_normal ?_
        refine K.t (K.g (K.q [.int .i64 ((j : Nat) : Int)] ?_))
        refine K.a (K.QR.n64 ((((j : Nat) : Int) : Int) + (1 : Int)) ((j + 1 : Nat) : Int) (by kernel_rfl) (by omega)) ?_
        refine K.q [.int .i64 ((j + 1 : Nat) : Int)] (K.z (K.t ?_))
        have hd_71 : K.Hands (advEl b_16) 40 1 (l_59 ++ (hA_44 ++ ([g_61].flatten ++ hB_46))) ((some ⟨r_29, 0, none⟩)) (hs.set tk (some (advStep c ((lns c).toNat) (⟨((tk : Nat) : Int), false, 0, 0, 0, false⟩ : AdvS) M).1)) := hcl_54 _ _ _ [.pointer (some ⟨p_55, 0, none⟩)] rfl ⟨_, rfl, by simp [h_63]⟩ o_60
        replace hS : K.Sat w0 [(l_59 ++ (hA_44 ++ ([g_61].flatten ++ hB_46))), l_62, gl_21, g_14, m_23, g_2, fr] w := (hS.pick [3, 4, 1, 6, 0, 2, 7, 8, 9, 10]).of (by simp [K.pick, K.nth])
        generalize (l_59 ++ (hA_44 ++ ([g_61].flatten ++ hB_46))) = ld_72 at hS hd_71
        refine ⟨_, ?_, j + 1, mv, (hs.set tk (some (advStep c ((lns c).toNat) (⟨((tk : Nat) : Int), false, 0, 0, 0, false⟩ : AdvS) M).1)), ((advStep c ((lns c).toNat) (⟨((tk : Nat) : Int), false, 0, 0, 0, false⟩ : AdvS) M).2), ld_72, l_62, rfl, ⟨by rfl, by rfl, by rfl, by rfl, by rfl, by rfl, by rfl, by rfl, by rfl, by rfl, by rfl, trivial⟩, (by omega), (by omega), ((List.length_set).trans hhs), (oneOk_set hok (by assumption) (fun _ => hb_70)), (by assumption), ((advStep_nm hnd hnm hpk (by omega) hb_70).trans (by first | rfl | (congr 1; omega))), hd_71, x_64, hS.pick [0, 3, 2, 1, 4, 5, 6]⟩
        omega
       ·
        refine K.q [.bool true] (K.z (K.t (K.h (K.g (K.q [.int .u64 ((mv : Nat) : Int)] ?_)))))
        refine K.a (K.QR.nu64 ((((mv : Nat) : Int) : Int) + (1 : Int)) ((mv + 1 : Nat) : Int) (by kernel_rfl) (by omega)) ?_
        refine K.q [.int .u64 ((mv + 1 : Nat) : Int)] (K.z (K.t (K.s (K.g (K.q [.pointer (some ⟨p_17, 0, none⟩)] ?_)))))
        refine K.l (K.OW.gcall hS [2] [0, 1, 3, 4, 5, 6, 7, 8, 9, 10] [.pointer (some ⟨p_17, 0, none⟩), .int .i64 (-1)] (pkS_ok _ _ _ _ _ _ _ x_64 ((-1) : Int) (by first | omega | assumption | exact aft_int (by assumption) _ | exact ann_int (by assumption) _ (by first | omega | assumption)) (first + (mv : Int) + 1) (advStep_mv hnd hnm hpk (by omega) hb_70)) ?_)
        clear hS; rintro _ _ w ⟨rfl, rfl⟩ hS
        replace hS : K.Sat w0 [l_62, g_61, gl_21, l_59, hA_44, hg_45, hB_46, g_14, m_23, g_2, fr] w := hS
        refine K.q [.tuple #[.int .u64 (first + (mv : Int) + 1), .bool true], .int .u64 (first + (mv : Int) + 1), .bool true, .int .u64 (first + (mv : Int) + 1), .bool true] (K.z (K.t (K.s (K.g (K.q [.int .u64 (first + (mv : Int) + 1), .int .u32 first] ?_)))))
        refine K.a (K.QR.nice (v := .int .u64 (IntKind.u64.wrap first)) (by kernel_rfl) (congrArg (Value.int .u64) (IntWalk.u64_in _ (by omega)))) ?_
        refine K.q [.int .u64 ((mv + 1 : Nat) : Int)] ?_
        refine K.a (K.QR.nu64 ((first : Int) + (((mv + 1 : Nat) : Int) : Int)) ((first : Int) + (((mv + 1 : Nat) : Int) : Int)) (by kernel_rfl) (by omega)) ?_
        refine K.xn ((first + (mv : Int) + 1) : Int) ((first : Int) + (((mv + 1 : Nat) : Int) : Int) : Int) (by omega) ?_
        refine K.z (K.t (K.f (K.k ?_)))
        refine K.blk_normal ?_
        refine K.t (K.g (K.q [.int .i64 ((j : Nat) : Int)] ?_))
        refine K.a (K.QR.n64 ((((j : Nat) : Int) : Int) + (1 : Int)) ((j + 1 : Nat) : Int) (by kernel_rfl) (by omega)) ?_
        refine K.q [.int .i64 ((j + 1 : Nat) : Int)] (K.z (K.t ?_))
        have hd_73 : K.Hands (advEl b_16) 40 1 (l_59 ++ (hA_44 ++ ([g_61].flatten ++ hB_46))) ((some ⟨r_29, 0, none⟩)) (hs.set tk (some (advStep c ((lns c).toNat) (⟨((tk : Nat) : Int), false, 0, 0, 0, false⟩ : AdvS) M).1)) := hcl_54 _ _ _ [.pointer (some ⟨p_55, 0, none⟩)] rfl ⟨_, rfl, by simp [h_63]⟩ o_60
        replace hS : K.Sat w0 [(l_59 ++ (hA_44 ++ ([g_61].flatten ++ hB_46))), l_62, gl_21, g_14, m_23, g_2, fr] w := (hS.pick [3, 4, 1, 6, 0, 2, 7, 8, 9, 10]).of (by simp [K.pick, K.nth])
        generalize (l_59 ++ (hA_44 ++ ([g_61].flatten ++ hB_46))) = ld_74 at hS hd_73
        refine ⟨_, ?_, j + 1, mv + 1, (hs.set tk (some (advStep c ((lns c).toNat) (⟨((tk : Nat) : Int), false, 0, 0, 0, false⟩ : AdvS) M).1)), ((advStep c ((lns c).toNat) (⟨((tk : Nat) : Int), false, 0, 0, 0, false⟩ : AdvS) M).2), ld_74, l_62, rfl, ⟨by rfl, by rfl, by rfl, by rfl, by rfl, by rfl, by rfl, by rfl, by rfl, by rfl, by rfl, trivial⟩, (by omega), (by omega), ((List.length_set).trans hhs), (oneOk_set hok (by assumption) (fun hz => by rw [hb_67] at hz; cases hz)), (by assumption), ((advStep_mv hnd hnm hpk (by omega) hb_70).trans (by first | rfl | (congr 1; omega))), hd_73, x_64, hS.pick [0, 3, 2, 1, 4, 5, 6]⟩
        omega
     | some S =>
      obtain ⟨row_75, hA_76, hg_77, hB_78, cs_79, rfl, hcs_80, hall_81, htl_82, hct_83, hel_84, how_85, hcl_86⟩ := x_38.open_ tk (some S) hSo
      replace hS : K.Sat w0 [row_75, hA_76, hg_77, hB_78, g_14, gl_21, l1, m_23, g_2, fr] w := hS.of
      obtain ⟨pS, hce, hge⟩ := hel_84
      obtain ⟨hSg, hSm⟩ := hok S (List.mem_of_getElem? hSo)
      rw [hce] at how_85
      replace hS : K.Sat w0 [row_75, hA_76, hg_77, hB_78, g_14, gl_21, l1, m_23, g_2, fr] w := hS.of (by simp [K.pick, K.nth])
      refine K.g (K.q [.slice (some ⟨r_29, 0, none⟩) c.th.toNat c.th.toNat, .int .i64 ((tk : Nat) : Int)] ?_)
      refine K.a (K.QR.ix tk 1 rfl rfl rfl Try.underlying39 (by kernel_rfl) (by omega) (by first | (simp; done) | omega | (simp; omega))) ?_
      refine K.d (.pointer (some ⟨pS, 0, none⟩)) (K.row_at1 (hS.ownr 0 rfl how_85) hcs_80 hall_81 rfl htl_82 rfl) ?_
      refine K.l (K.OW.gcall hS [2] [0, 1, 3, 4, 5, 6, 7, 8, 9] [.pointer (some ⟨pS, 0, none⟩)] (advDone_ok _ _ _ S _ hge) ?_)
      clear hS; rintro _ _ w ⟨rfl, rfl⟩ hS
      replace hS : K.Sat w0 [hg_77, row_75, hA_76, hB_78, g_14, gl_21, l1, m_23, g_2, fr] w := hS
      cases hb_87 : S.done
      ·
       refine K.z (K.t (K.f (K.k (K.t (K.s (K.s ?_))))))
       have hnd := hb_87
       have hnm := hSm hnd
       refine K.g (K.q [.slice (some ⟨r_29, 0, none⟩) c.th.toNat c.th.toNat, .int .i64 ((tk : Nat) : Int)] ?_)
       refine K.a (K.QR.ix tk 1 rfl rfl rfl Try.underlying39 (by kernel_rfl) (by omega) (by first | (simp; done) | omega | (simp; omega))) ?_
       refine K.d (.pointer (some ⟨pS, 0, none⟩)) (K.row_at1 (hS.ownr 1 rfl how_85) hcs_80 hall_81 rfl htl_82 rfl) ?_
       refine K.q [.pointer (some ⟨p_17, 0, none⟩)] ?_
       refine K.l (K.OW.gcall hS [0, 5, 6] [1, 2, 3, 4, 7, 8, 9] [.pointer (some ⟨pS, 0, none⟩), .pointer (some ⟨p_17, 0, none⟩)] (advStep_ok _ _ _ _ _ _ _ c (by first | assumption | (unfold cfgOk; decide)) S M _ _ _ hge hl_24 x_39 (by assumption) (by assumption)) ?_)
       clear hS; rintro _ _ w ⟨g_88, l_89, rfl, rfl, h_90, x_91⟩ hS
       replace hS : K.Sat w0 [g_88, gl_21, l_89, row_75, hA_76, hB_78, g_14, m_23, g_2, fr] w := hS
       obtain ⟨hS_92, hM_93⟩ := (advStep_good (by first | assumption | (unfold cfgOk; decide)) (by assumption) (by assumption) : (advStep c ((lns c).toNat) S M).1.good ∧ (advStep c ((lns c).toNat) S M).2.good)
       cases hb_94 : (advStep c ((lns c).toNat) S M).1.done
       ·
        refine K.q [.bool false] ?_
        refine K.RW.skip rfl (by kernel_rfl) ?_
        refine K.RW.skip rfl (by kernel_rfl) ?_
        refine K.RW.skip rfl (by kernel_rfl) ?_
        refine K.RW.skip rfl (by kernel_rfl) ?_
        refine K.RW.skip rfl (by kernel_rfl) ?_
        refine K.q [.bool false] (K.z (K.t (K.f (K.k (K.t (K.s ?_))))))
        have hmf := advStep_nd hnd hnm hpk (by omega) hb_94
        refine K.g (K.q [.pointer (some ⟨p_17, 0, none⟩)] ?_)
        refine K.l (K.OW.gcall hS [2] [0, 1, 3, 4, 5, 6, 7, 8, 9] [.pointer (some ⟨p_17, 0, none⟩), .int .i64 (-1)] (pkS_ok _ _ _ _ _ _ _ x_91 ((-1) : Int) (by first | omega | assumption | exact aft_int (by assumption) _ | exact ann_int (by assumption) _ (by first | omega | assumption)) (first + (mv : Int)) (advStep_nm hnd hnm hpk (by omega) hmf)) ?_)
        clear hS; rintro _ _ w ⟨rfl, rfl⟩ hS
        replace hS : K.Sat w0 [l_89, g_88, gl_21, row_75, hA_76, hB_78, g_14, m_23, g_2, fr] w := hS
        refine K.q [.tuple #[.int .u64 (first + (mv : Int)), .bool true], .int .u64 (first + (mv : Int)), .bool true, .int .u64 (first + (mv : Int)), .bool true] (K.z (K.t (K.s (K.g (K.q [.int .u64 (first + (mv : Int)), .int .u32 first] ?_)))))
        refine K.a (K.QR.nice (v := .int .u64 (IntKind.u64.wrap first)) (by kernel_rfl) (congrArg (Value.int .u64) (IntWalk.u64_in _ (by omega)))) ?_
        refine K.q [.int .u64 ((mv : Nat) : Int)] ?_
        refine K.a (K.QR.nu64 ((first : Int) + (((mv : Nat) : Int) : Int)) ((first : Int) + (((mv : Nat) : Int) : Int)) (by kernel_rfl) (by omega)) ?_
        refine K.xn ((first + (mv : Int)) : Int) ((first : Int) + (((mv : Nat) : Int) : Int) : Int) (by omega) ?_
        refine K.z (K.t (K.f (K.k ?_)))
        refine K.blk_normal ?_
        refine K.t (K.g (K.q [.int .i64 ((j : Nat) : Int)] ?_))
        refine K.a (K.QR.n64 ((((j : Nat) : Int) : Int) + (1 : Int)) ((j + 1 : Nat) : Int) (by kernel_rfl) (by omega)) ?_
        refine K.q [.int .i64 ((j + 1 : Nat) : Int)] (K.z (K.t ?_))
        have hd_95 : K.Hands (advEl b_16) 40 1 (row_75 ++ (hA_76 ++ ([g_88].flatten ++ hB_78))) ((some ⟨r_29, 0, none⟩)) (hs.set tk (some (advStep c ((lns c).toNat) S M).1)) := hcl_86 _ _ _ [.pointer (some ⟨pS, 0, none⟩)] rfl ⟨_, rfl, by simp [h_90]⟩ how_85
        replace hS : K.Sat w0 [(row_75 ++ (hA_76 ++ ([g_88].flatten ++ hB_78))), l_89, gl_21, g_14, m_23, g_2, fr] w := (hS.pick [3, 4, 1, 5, 0, 2, 6, 7, 8, 9]).of (by simp [K.pick, K.nth])
        generalize (row_75 ++ (hA_76 ++ ([g_88].flatten ++ hB_78))) = ld_96 at hS hd_95
        refine ⟨_, ?_, j + 1, mv, (hs.set tk (some (advStep c ((lns c).toNat) S M).1)), ((advStep c ((lns c).toNat) S M).2), ld_96, l_89, rfl, ⟨by rfl, by rfl, by rfl, by rfl, by rfl, by rfl, by rfl, by rfl, by rfl, by rfl, by rfl, trivial⟩, (by omega), (by omega), ((List.length_set).trans hhs), (oneOk_set hok (by assumption) (fun _ => hmf)), (by assumption), ((advStep_nm hnd hnm hpk (by omega) hmf).trans (by first | rfl | (congr 1; omega))), hd_95, x_91, hS.pick [0, 3, 2, 1, 4, 5, 6]⟩
        omega
       ·
        refine K.q [.bool true, .slice (some ⟨r_29, 0, none⟩) c.th.toNat c.th.toNat, .int .i64 ((tk : Nat) : Int)] ?_
        refine K.a (K.QR.ix tk 1 rfl rfl rfl Try.underlying39 (by kernel_rfl) (by omega) (by first | (simp; done) | omega | (simp; omega))) ?_
        refine K.d (.pointer (some ⟨pS, 0, none⟩)) (K.row_at1 (hS.ownr 3 rfl how_85) hcs_80 hall_81 rfl htl_82 rfl) ?_
        refine K.l (K.OW.gcall hS [0] [1, 2, 3, 4, 5, 6, 7, 8, 9] [.pointer (some ⟨pS, 0, none⟩)] (advMoved_ok _ _ _ (advStep c ((lns c).toNat) S M).1 _ h_90) ?_)
        clear hS; rintro _ _ w ⟨rfl, rfl⟩ hS
        replace hS : K.Sat w0 [g_88, gl_21, l_89, row_75, hA_76, hB_78, g_14, m_23, g_2, fr] w := hS
        cases hb_97 : (advStep c ((lns c).toNat) S M).1.moved
        ·
         refine K.q [.bool false] (K.z (K.t (K.f (K.k (K.t (K.s (K.g (K.q [.pointer (some ⟨p_17, 0, none⟩)] ?_))))))))
         refine K.l (K.OW.gcall hS [2] [0, 1, 3, 4, 5, 6, 7, 8, 9] [.pointer (some ⟨p_17, 0, none⟩), .int .i64 (-1)] (pkS_ok _ _ _ _ _ _ _ x_91 ((-1) : Int) (by first | omega | assumption | exact aft_int (by assumption) _ | exact ann_int (by assumption) _ (by first | omega | assumption)) (first + (mv : Int)) (advStep_nm hnd hnm hpk (by omega) hb_97)) ?_)
         clear hS; rintro _ _ w ⟨rfl, rfl⟩ hS
         replace hS : K.Sat w0 [l_89, g_88, gl_21, row_75, hA_76, hB_78, g_14, m_23, g_2, fr] w := hS
         refine K.q [.tuple #[.int .u64 (first + (mv : Int)), .bool true], .int .u64 (first + (mv : Int)), .bool true, .int .u64 (first + (mv : Int)), .bool true] (K.z (K.t (K.s (K.g (K.q [.int .u64 (first + (mv : Int)), .int .u32 first] ?_)))))
         refine K.a (K.QR.nice (v := .int .u64 (IntKind.u64.wrap first)) (by kernel_rfl) (congrArg (Value.int .u64) (IntWalk.u64_in _ (by omega)))) ?_
         refine K.q [.int .u64 ((mv : Nat) : Int)] ?_
         refine K.a (K.QR.nu64 ((first : Int) + (((mv : Nat) : Int) : Int)) ((first : Int) + (((mv : Nat) : Int) : Int)) (by kernel_rfl) (by omega)) ?_
         refine K.xn ((first + (mv : Int)) : Int) ((first : Int) + (((mv : Nat) : Int) : Int) : Int) (by omega) ?_
         refine K.z (K.t (K.f (K.k ?_)))
         refine K.blk_normal ?_
         refine K.t (K.g (K.q [.int .i64 ((j : Nat) : Int)] ?_))
         refine K.a (K.QR.n64 ((((j : Nat) : Int) : Int) + (1 : Int)) ((j + 1 : Nat) : Int) (by kernel_rfl) (by omega)) ?_
         refine K.q [.int .i64 ((j + 1 : Nat) : Int)] (K.z (K.t ?_))
         have hd_98 : K.Hands (advEl b_16) 40 1 (row_75 ++ (hA_76 ++ ([g_88].flatten ++ hB_78))) ((some ⟨r_29, 0, none⟩)) (hs.set tk (some (advStep c ((lns c).toNat) S M).1)) := hcl_86 _ _ _ [.pointer (some ⟨pS, 0, none⟩)] rfl ⟨_, rfl, by simp [h_90]⟩ how_85
         replace hS : K.Sat w0 [(row_75 ++ (hA_76 ++ ([g_88].flatten ++ hB_78))), l_89, gl_21, g_14, m_23, g_2, fr] w := (hS.pick [3, 4, 1, 5, 0, 2, 6, 7, 8, 9]).of (by simp [K.pick, K.nth])
         generalize (row_75 ++ (hA_76 ++ ([g_88].flatten ++ hB_78))) = ld_99 at hS hd_98
         refine ⟨_, ?_, j + 1, mv, (hs.set tk (some (advStep c ((lns c).toNat) S M).1)), ((advStep c ((lns c).toNat) S M).2), ld_99, l_89, rfl, ⟨by rfl, by rfl, by rfl, by rfl, by rfl, by rfl, by rfl, by rfl, by rfl, by rfl, by rfl, trivial⟩, (by omega), (by omega), ((List.length_set).trans hhs), (oneOk_set hok (by assumption) (fun _ => hb_97)), (by assumption), ((advStep_nm hnd hnm hpk (by omega) hb_97).trans (by first | rfl | (congr 1; omega))), hd_98, x_91, hS.pick [0, 3, 2, 1, 4, 5, 6]⟩
         omega
        ·
         refine K.q [.bool true] (K.z (K.t (K.h (K.g (K.q [.int .u64 ((mv : Nat) : Int)] ?_)))))
         refine K.a (K.QR.nu64 ((((mv : Nat) : Int) : Int) + (1 : Int)) ((mv + 1 : Nat) : Int) (by kernel_rfl) (by omega)) ?_
         refine K.q [.int .u64 ((mv + 1 : Nat) : Int)] (K.z (K.t (K.s (K.g (K.q [.pointer (some ⟨p_17, 0, none⟩)] ?_)))))
         refine K.l (K.OW.gcall hS [2] [0, 1, 3, 4, 5, 6, 7, 8, 9] [.pointer (some ⟨p_17, 0, none⟩), .int .i64 (-1)] (pkS_ok _ _ _ _ _ _ _ x_91 ((-1) : Int) (by first | omega | assumption | exact aft_int (by assumption) _ | exact ann_int (by assumption) _ (by first | omega | assumption)) (first + (mv : Int) + 1) (advStep_mv hnd hnm hpk (by omega) hb_97)) ?_)
         clear hS; rintro _ _ w ⟨rfl, rfl⟩ hS
         replace hS : K.Sat w0 [l_89, g_88, gl_21, row_75, hA_76, hB_78, g_14, m_23, g_2, fr] w := hS
         refine K.q [.tuple #[.int .u64 (first + (mv : Int) + 1), .bool true], .int .u64 (first + (mv : Int) + 1), .bool true, .int .u64 (first + (mv : Int) + 1), .bool true] (K.z (K.t (K.s (K.g (K.q [.int .u64 (first + (mv : Int) + 1), .int .u32 first] ?_)))))
         refine K.a (K.QR.nice (v := .int .u64 (IntKind.u64.wrap first)) (by kernel_rfl) (congrArg (Value.int .u64) (IntWalk.u64_in _ (by omega)))) ?_
         refine K.q [.int .u64 ((mv + 1 : Nat) : Int)] ?_
         refine K.a (K.QR.nu64 ((first : Int) + (((mv + 1 : Nat) : Int) : Int)) ((first : Int) + (((mv + 1 : Nat) : Int) : Int)) (by kernel_rfl) (by omega)) ?_
         refine K.xn ((first + (mv : Int) + 1) : Int) ((first : Int) + (((mv + 1 : Nat) : Int) : Int) : Int) (by omega) ?_
         refine K.z (K.t (K.f (K.k ?_)))
         refine K.blk_normal ?_
         refine K.t (K.g (K.q [.int .i64 ((j : Nat) : Int)] ?_))
         refine K.a (K.QR.n64 ((((j : Nat) : Int) : Int) + (1 : Int)) ((j + 1 : Nat) : Int) (by kernel_rfl) (by omega)) ?_
         refine K.q [.int .i64 ((j + 1 : Nat) : Int)] (K.z (K.t ?_))
         have hd_100 : K.Hands (advEl b_16) 40 1 (row_75 ++ (hA_76 ++ ([g_88].flatten ++ hB_78))) ((some ⟨r_29, 0, none⟩)) (hs.set tk (some (advStep c ((lns c).toNat) S M).1)) := hcl_86 _ _ _ [.pointer (some ⟨pS, 0, none⟩)] rfl ⟨_, rfl, by simp [h_90]⟩ how_85
         replace hS : K.Sat w0 [(row_75 ++ (hA_76 ++ ([g_88].flatten ++ hB_78))), l_89, gl_21, g_14, m_23, g_2, fr] w := (hS.pick [3, 4, 1, 5, 0, 2, 6, 7, 8, 9]).of (by simp [K.pick, K.nth])
         generalize (row_75 ++ (hA_76 ++ ([g_88].flatten ++ hB_78))) = ld_101 at hS hd_100
         refine ⟨_, ?_, j + 1, mv + 1, (hs.set tk (some (advStep c ((lns c).toNat) S M).1)), ((advStep c ((lns c).toNat) S M).2), ld_101, l_89, rfl, ⟨by rfl, by rfl, by rfl, by rfl, by rfl, by rfl, by rfl, by rfl, by rfl, by rfl, by rfl, trivial⟩, (by omega), (by omega), ((List.length_set).trans hhs), (oneOk_set hok (by assumption) (fun hz => by rw [hb_94] at hz; cases hz)), (by assumption), ((advStep_mv hnd hnm hpk (by omega) hb_97).trans (by first | rfl | (congr 1; omega))), hd_100, x_91, hS.pick [0, 3, 2, 1, 4, 5, 6]⟩
         omega
      ·
       refine K.z (K.t (K.h (K.g (K.q [.slice (some ⟨r_29, 0, none⟩) c.th.toNat c.th.toNat, .int .i64 ((tk : Nat) : Int), .pointer (some ⟨b_16, 0, none⟩), .int .i64 ((tk : Nat) : Int)] ?_))))
       refine K.l (K.OW.gcall hS [] [0, 1, 2, 3, 4, 5, 6, 7, 8, 9] [.pointer (some ⟨b_16, 0, none⟩), .int .i64 ((tk : Nat) : Int)] (newadv_ok _ _ ((tk : Nat) : Int)) ?_)
       clear hS; rintro _ _ w ⟨p_102, g_103, rfl, rfl, h_104⟩ hS
       replace hS : K.Sat w0 [g_103, hg_77, row_75, hA_76, hB_78, g_14, gl_21, l1, m_23, g_2, fr] w := hS
       have hS_105 : AdvS.good (⟨((tk : Nat) : Int), false, 0, 0, 0, false⟩ : AdvS) := ⟨(by omega : isInt ((tk : Nat) : Int)), isW00, ⟨Int.le_refl _, (by decide : (0 : Int) ≤ 64)⟩, .inr (.inl ⟨rfl, rfl⟩)⟩
       refine K.a (K.QR.ix tk 1 rfl rfl rfl Try.underlying39 (by kernel_rfl) (by omega) (by first | (simp; done) | omega | (simp; omega))) ?_
       refine K.l (K.OW.grst 2 tk [.pointer (some ⟨p_102, 0, none⟩)] ((cs_79.set tk [.pointer (some ⟨p_102, 0, none⟩)]).flatten) hS how_85 ?_ (by show _ + 1 ≤ _; omega) (K.set_at1 hcs_80 hall_81 rfl htl_82 rfl))
       clear hS; intro w l_106 o_107 hS
       replace hS : K.Sat w0 [g_103, hg_77, l_106, hA_76, hB_78, g_14, gl_21, l1, m_23, g_2, fr] w := hS
       refine K.z (K.t (K.s (K.s ?_)))
       have hnd : (⟨((tk : Nat) : Int), false, 0, 0, 0, false⟩ : AdvS).done = false := rfl
       have hnm : (⟨((tk : Nat) : Int), false, 0, 0, 0, false⟩ : AdvS).moved = false := rfl
       refine K.g (K.q [.slice (some ⟨r_29, 0, none⟩) c.th.toNat c.th.toNat, .int .i64 ((tk : Nat) : Int)] ?_)
       refine K.a (K.QR.ix tk 1 rfl rfl rfl Try.underlying39 (by kernel_rfl) (by omega) (by first | (simp; done) | omega | (simp; omega))) ?_
       refine K.d (.pointer (some ⟨p_102, 0, none⟩)) (K.row_at1 (hS.ownr 2 rfl o_107) hcs_80 hall_81 rfl htl_82 rfl) ?_
       refine K.q [.pointer (some ⟨p_17, 0, none⟩)] ?_
       refine K.l (K.OW.gcall hS [0, 6, 7] [1, 2, 3, 4, 5, 8, 9, 10] [.pointer (some ⟨p_102, 0, none⟩), .pointer (some ⟨p_17, 0, none⟩)] (advStep_ok _ _ _ _ _ _ _ c (by first | assumption | (unfold cfgOk; decide)) (⟨((tk : Nat) : Int), false, 0, 0, 0, false⟩ : AdvS) M _ _ _ h_104 hl_24 x_39 (by assumption) (by assumption)) ?_)
       clear hS; rintro _ _ w ⟨g_108, l_109, rfl, rfl, h_110, x_111⟩ hS
       replace hS : K.Sat w0 [g_108, gl_21, l_109, hg_77, l_106, hA_76, hB_78, g_14, m_23, g_2, fr] w := hS
       obtain ⟨hS_112, hM_113⟩ := (advStep_good (by first | assumption | (unfold cfgOk; decide)) (by assumption) (by assumption) : (advStep c ((lns c).toNat) (⟨((tk : Nat) : Int), false, 0, 0, 0, false⟩ : AdvS) M).1.good ∧ (advStep c ((lns c).toNat) (⟨((tk : Nat) : Int), false, 0, 0, 0, false⟩ : AdvS) M).2.good)
       cases hb_114 : (advStep c ((lns c).toNat) (⟨((tk : Nat) : Int), false, 0, 0, 0, false⟩ : AdvS) M).1.done
       ·
        refine K.q [.bool false] ?_
        refine K.RW.skip rfl (by kernel_rfl) ?_
        refine K.RW.skip rfl (by kernel_rfl) ?_
        refine K.RW.skip rfl (by kernel_rfl) ?_
        refine K.RW.skip rfl (by kernel_rfl) ?_
        refine K.RW.skip rfl (by kernel_rfl) ?_
        refine K.q [.bool false] (K.z (K.t (K.f (K.k (K.t (K.s ?_))))))
        have hmf := advStep_nd hnd hnm hpk (by omega) hb_114
        refine K.g (K.q [.pointer (some ⟨p_17, 0, none⟩)] ?_)
        refine K.l (K.OW.gcall hS [2] [0, 1, 3, 4, 5, 6, 7, 8, 9, 10] [.pointer (some ⟨p_17, 0, none⟩), .int .i64 (-1)] (pkS_ok _ _ _ _ _ _ _ x_111 ((-1) : Int) (by first | omega | assumption | exact aft_int (by assumption) _ | exact ann_int (by assumption) _ (by first | omega | assumption)) (first + (mv : Int)) (advStep_nm hnd hnm hpk (by omega) hmf)) ?_)
        clear hS; rintro _ _ w ⟨rfl, rfl⟩ hS
        replace hS : K.Sat w0 [l_109, g_108, gl_21, hg_77, l_106, hA_76, hB_78, g_14, m_23, g_2, fr] w := hS
        refine K.q [.tuple #[.int .u64 (first + (mv : Int)), .bool true], .int .u64 (first + (mv : Int)), .bool true, .int .u64 (first + (mv : Int)), .bool true] (K.z (K.t (K.s (K.g (K.q [.int .u64 (first + (mv : Int)), .int .u32 first] ?_)))))
        refine K.a (K.QR.nice (v := .int .u64 (IntKind.u64.wrap first)) (by kernel_rfl) (congrArg (Value.int .u64) (IntWalk.u64_in _ (by omega)))) ?_
        refine K.q [.int .u64 ((mv : Nat) : Int)] ?_
        refine K.a (K.QR.nu64 ((first : Int) + (((mv : Nat) : Int) : Int)) ((first : Int) + (((mv : Nat) : Int) : Int)) (by kernel_rfl) (by omega)) ?_
        refine K.xn ((first + (mv : Int)) : Int) ((first : Int) + (((mv : Nat) : Int) : Int) : Int) (by omega) ?_
        refine K.z (K.t (K.f (K.k ?_)))
        refine K.blk_normal ?_
        refine K.t (K.g (K.q [.int .i64 ((j : Nat) : Int)] ?_))
        refine K.a (K.QR.n64 ((((j : Nat) : Int) : Int) + (1 : Int)) ((j + 1 : Nat) : Int) (by kernel_rfl) (by omega)) ?_
        refine K.q [.int .i64 ((j + 1 : Nat) : Int)] (K.z (K.t ?_))
        have hd_115 : K.Hands (advEl b_16) 40 1 (l_106 ++ (hA_76 ++ ([g_108].flatten ++ hB_78))) ((some ⟨r_29, 0, none⟩)) (hs.set tk (some (advStep c ((lns c).toNat) (⟨((tk : Nat) : Int), false, 0, 0, 0, false⟩ : AdvS) M).1)) := hcl_86 _ _ _ [.pointer (some ⟨p_102, 0, none⟩)] rfl ⟨_, rfl, by simp [h_110]⟩ o_107
        replace hS : K.Sat w0 [(l_106 ++ (hA_76 ++ ([g_108].flatten ++ hB_78))), l_109, gl_21, hg_77, g_14, m_23, g_2, fr] w := (hS.pick [4, 5, 1, 6, 0, 2, 3, 7, 8, 9, 10]).of (by simp [K.pick, K.nth])
        generalize (l_106 ++ (hA_76 ++ ([g_108].flatten ++ hB_78))) = ld_116 at hS hd_115
        refine ⟨_, ?_, j + 1, mv, (hs.set tk (some (advStep c ((lns c).toNat) (⟨((tk : Nat) : Int), false, 0, 0, 0, false⟩ : AdvS) M).1)), ((advStep c ((lns c).toNat) (⟨((tk : Nat) : Int), false, 0, 0, 0, false⟩ : AdvS) M).2), ld_116, l_109, rfl, ⟨by rfl, by rfl, by rfl, by rfl, by rfl, by rfl, by rfl, by rfl, by rfl, by rfl, by rfl, trivial⟩, (by omega), (by omega), ((List.length_set).trans hhs), (oneOk_set hok (by assumption) (fun _ => hmf)), (by assumption), ((advStep_nm hnd hnm hpk (by omega) hmf).trans (by first | rfl | (congr 1; omega))), hd_115, x_111, hS.pick [0, 4, 2, 1, 5, 6, 7]⟩
        omega
       ·
        refine K.q [.bool true, .slice (some ⟨r_29, 0, none⟩) c.th.toNat c.th.toNat, .int .i64 ((tk : Nat) : Int)] ?_
        refine K.a (K.QR.ix tk 1 rfl rfl rfl Try.underlying39 (by kernel_rfl) (by omega) (by first | (simp; done) | omega | (simp; omega))) ?_
        refine K.d (.pointer (some ⟨p_102, 0, none⟩)) (K.row_at1 (hS.ownr 4 rfl o_107) hcs_80 hall_81 rfl htl_82 rfl) ?_
        refine K.l (K.OW.gcall hS [0] [1, 2, 3, 4, 5, 6, 7, 8, 9, 10] [.pointer (some ⟨p_102, 0, none⟩)] (advMoved_ok _ _ _ (advStep c ((lns c).toNat) (⟨((tk : Nat) : Int), false, 0, 0, 0, false⟩ : AdvS) M).1 _ h_110) ?_)
        clear hS; rintro _ _ w ⟨rfl, rfl⟩ hS
        replace hS : K.Sat w0 [g_108, gl_21, l_109, hg_77, l_106, hA_76, hB_78, g_14, m_23, g_2, fr] w := hS
        cases hb_117 : (advStep c ((lns c).toNat) (⟨((tk : Nat) : Int), false, 0, 0, 0, false⟩ : AdvS) M).1.moved
        ·
         refine K.q [.bool false] (K.z (K.t (K.f (K.k (K.t (K.s (K.g (K.q [.pointer (some ⟨p_17, 0, none⟩)] ?_))))))))
         refine K.l (K.OW.gcall hS [2] [0, 1, 3, 4, 5, 6, 7, 8, 9, 10] [.pointer (some ⟨p_17, 0, none⟩), .int .i64 (-1)] (pkS_ok _ _ _ _ _ _ _ x_111 ((-1) : Int) (by first | omega | assumption | exact aft_int (by assumption) _ | exact ann_int (by assumption) _ (by first | omega | assumption)) (first + (mv : Int)) (advStep_nm hnd hnm hpk (by omega) hb_117)) ?_)
         clear hS; rintro _ _ w ⟨rfl, rfl⟩ hS
         replace hS : K.Sat w0 [l_109, g_108, gl_21, hg_77, l_106, hA_76, hB_78, g_14, m_23, g_2, fr] w := hS
         refine K.q [.tuple #[.int .u64 (first + (mv : Int)), .bool true], .int .u64 (first + (mv : Int)), .bool true, .int .u64 (first + (mv : Int)), .bool true] (K.z (K.t (K.s (K.g (K.q [.int .u64 (first + (mv : Int)), .int .u32 first] ?_)))))
         refine K.a (K.QR.nice (v := .int .u64 (IntKind.u64.wrap first)) (by kernel_rfl) (congrArg (Value.int .u64) (IntWalk.u64_in _ (by omega)))) ?_
         refine K.q [.int .u64 ((mv : Nat) : Int)] ?_
         refine K.a (K.QR.nu64 ((first : Int) + (((mv : Nat) : Int) : Int)) ((first : Int) + (((mv : Nat) : Int) : Int)) (by kernel_rfl) (by omega)) ?_
         refine K.xn ((first + (mv : Int)) : Int) ((first : Int) + (((mv : Nat) : Int) : Int) : Int) (by omega) ?_
         refine K.z (K.t (K.f (K.k ?_)))
         refine K.blk_normal ?_
         refine K.t (K.g (K.q [.int .i64 ((j : Nat) : Int)] ?_))
         refine K.a (K.QR.n64 ((((j : Nat) : Int) : Int) + (1 : Int)) ((j + 1 : Nat) : Int) (by kernel_rfl) (by omega)) ?_
         refine K.q [.int .i64 ((j + 1 : Nat) : Int)] (K.z (K.t ?_))
         have hd_118 : K.Hands (advEl b_16) 40 1 (l_106 ++ (hA_76 ++ ([g_108].flatten ++ hB_78))) ((some ⟨r_29, 0, none⟩)) (hs.set tk (some (advStep c ((lns c).toNat) (⟨((tk : Nat) : Int), false, 0, 0, 0, false⟩ : AdvS) M).1)) := hcl_86 _ _ _ [.pointer (some ⟨p_102, 0, none⟩)] rfl ⟨_, rfl, by simp [h_110]⟩ o_107
         replace hS : K.Sat w0 [(l_106 ++ (hA_76 ++ ([g_108].flatten ++ hB_78))), l_109, gl_21, hg_77, g_14, m_23, g_2, fr] w := (hS.pick [4, 5, 1, 6, 0, 2, 3, 7, 8, 9, 10]).of (by simp [K.pick, K.nth])
         generalize (l_106 ++ (hA_76 ++ ([g_108].flatten ++ hB_78))) = ld_119 at hS hd_118
         refine ⟨_, ?_, j + 1, mv, (hs.set tk (some (advStep c ((lns c).toNat) (⟨((tk : Nat) : Int), false, 0, 0, 0, false⟩ : AdvS) M).1)), ((advStep c ((lns c).toNat) (⟨((tk : Nat) : Int), false, 0, 0, 0, false⟩ : AdvS) M).2), ld_119, l_109, rfl, ⟨by rfl, by rfl, by rfl, by rfl, by rfl, by rfl, by rfl, by rfl, by rfl, by rfl, by rfl, trivial⟩, (by omega), (by omega), ((List.length_set).trans hhs), (oneOk_set hok (by assumption) (fun _ => hb_117)), (by assumption), ((advStep_nm hnd hnm hpk (by omega) hb_117).trans (by first | rfl | (congr 1; omega))), hd_118, x_111, hS.pick [0, 4, 2, 1, 5, 6, 7]⟩
         omega
        ·
         refine K.q [.bool true] (K.z (K.t (K.h (K.g (K.q [.int .u64 ((mv : Nat) : Int)] ?_)))))
         refine K.a (K.QR.nu64 ((((mv : Nat) : Int) : Int) + (1 : Int)) ((mv + 1 : Nat) : Int) (by kernel_rfl) (by omega)) ?_
         refine K.q [.int .u64 ((mv + 1 : Nat) : Int)] (K.z (K.t (K.s (K.g (K.q [.pointer (some ⟨p_17, 0, none⟩)] ?_)))))
         refine K.l (K.OW.gcall hS [2] [0, 1, 3, 4, 5, 6, 7, 8, 9, 10] [.pointer (some ⟨p_17, 0, none⟩), .int .i64 (-1)] (pkS_ok _ _ _ _ _ _ _ x_111 ((-1) : Int) (by first | omega | assumption | exact aft_int (by assumption) _ | exact ann_int (by assumption) _ (by first | omega | assumption)) (first + (mv : Int) + 1) (advStep_mv hnd hnm hpk (by omega) hb_117)) ?_)
         clear hS; rintro _ _ w ⟨rfl, rfl⟩ hS
         replace hS : K.Sat w0 [l_109, g_108, gl_21, hg_77, l_106, hA_76, hB_78, g_14, m_23, g_2, fr] w := hS
         refine K.q [.tuple #[.int .u64 (first + (mv : Int) + 1), .bool true], .int .u64 (first + (mv : Int) + 1), .bool true, .int .u64 (first + (mv : Int) + 1), .bool true] (K.z (K.t (K.s (K.g (K.q [.int .u64 (first + (mv : Int) + 1), .int .u32 first] ?_)))))
         refine K.a (K.QR.nice (v := .int .u64 (IntKind.u64.wrap first)) (by kernel_rfl) (congrArg (Value.int .u64) (IntWalk.u64_in _ (by omega)))) ?_
         refine K.q [.int .u64 ((mv + 1 : Nat) : Int)] ?_
         refine K.a (K.QR.nu64 ((first : Int) + (((mv + 1 : Nat) : Int) : Int)) ((first : Int) + (((mv + 1 : Nat) : Int) : Int)) (by kernel_rfl) (by omega)) ?_
         refine K.xn ((first + (mv : Int) + 1) : Int) ((first : Int) + (((mv + 1 : Nat) : Int) : Int) : Int) (by omega) ?_
         refine K.z (K.t (K.f (K.k ?_)))
         refine K.blk_normal ?_
         refine K.t (K.g (K.q [.int .i64 ((j : Nat) : Int)] ?_))
         refine K.a (K.QR.n64 ((((j : Nat) : Int) : Int) + (1 : Int)) ((j + 1 : Nat) : Int) (by kernel_rfl) (by omega)) ?_
         refine K.q [.int .i64 ((j + 1 : Nat) : Int)] (K.z (K.t ?_))
         have hd_120 : K.Hands (advEl b_16) 40 1 (l_106 ++ (hA_76 ++ ([g_108].flatten ++ hB_78))) ((some ⟨r_29, 0, none⟩)) (hs.set tk (some (advStep c ((lns c).toNat) (⟨((tk : Nat) : Int), false, 0, 0, 0, false⟩ : AdvS) M).1)) := hcl_86 _ _ _ [.pointer (some ⟨p_102, 0, none⟩)] rfl ⟨_, rfl, by simp [h_110]⟩ o_107
         replace hS : K.Sat w0 [(l_106 ++ (hA_76 ++ ([g_108].flatten ++ hB_78))), l_109, gl_21, hg_77, g_14, m_23, g_2, fr] w := (hS.pick [4, 5, 1, 6, 0, 2, 3, 7, 8, 9, 10]).of (by simp [K.pick, K.nth])
         generalize (l_106 ++ (hA_76 ++ ([g_108].flatten ++ hB_78))) = ld_121 at hS hd_120
         refine ⟨_, ?_, j + 1, mv + 1, (hs.set tk (some (advStep c ((lns c).toNat) (⟨((tk : Nat) : Int), false, 0, 0, 0, false⟩ : AdvS) M).1)), ((advStep c ((lns c).toNat) (⟨((tk : Nat) : Int), false, 0, 0, 0, false⟩ : AdvS) M).2), ld_121, l_109, rfl, ⟨by rfl, by rfl, by rfl, by rfl, by rfl, by rfl, by rfl, by rfl, by rfl, by rfl, by rfl, trivial⟩, (by omega), (by omega), ((List.length_set).trans hhs), (oneOk_set hok (by assumption) (fun hz => by rw [hb_114] at hz; cases hz)), (by assumption), ((advStep_mv hnd hnm hpk (by omega) hb_117).trans (by first | rfl | (congr 1; omega))), hd_120, x_111, hS.pick [0, 4, 2, 1, 5, 6, 7]⟩
         omega
    ·
     refine K.x ((((j : Nat) : Int) : Int) < (((xs.length : Nat) : Int) : Int)) h_40 ?_
     refine K.z (K.t (K.f ?_))
     refine K.KW.exit ?_
     refine K.thn_exit ?_
     refine K.thn_exit ?_
     refine K.blk_hit ?_
     refine K.t (K.s (K.g ?_))
     refine K.l (K.OW.gcall hS [] [0, 1, 2, 3, 4, 5, 6] [] (awake10_ok _) ?_)
     clear hS; rintro _ _ w ⟨rfl, rfl⟩ hS
     replace hS : K.Sat w0 [hd1, g_14, gl_21, l1, m_23, g_2, fr] w := hS
     refine K.q [.bool true, .bool true, .bool true, .bool true] (K.z (K.t (K.r ?_)))
     refine ⟨.inr rfl, rfl, (.bool true), K.res1 rfl rfl, [], ?_, hS.pick [6]⟩
     exact rfl
 ·
  replace hS : K.Sat w0 [g_2, fr] w := hS
  refine K.q [.bool true, .bool true] ?_
  refine K.RW.skip rfl (by kernel_rfl) ?_
  refine K.RW.skip rfl (by kernel_rfl) ?_
  refine K.RW.skip rfl (by kernel_rfl) ?_
  refine K.q [.bool true] (K.z (K.t (K.h (K.s (K.g ?_)))))
  refine K.l (K.OW.gcall hS [] [0, 1] [] (awake10_ok _) ?_)
  clear hS; rintro _ _ w ⟨rfl, rfl⟩ hS
  replace hS : K.Sat w0 [g_2, fr] w := hS
  refine K.q [.bool true] (K.z (K.t (K.r (K.u ?_))))
  refine ⟨.inr rfl, rfl, (.bool true), K.res1 rfl rfl, [], ?_, hS.pick [1]⟩
  exact rfl

end Go.Proofs.Ytajkickofkeemaa
