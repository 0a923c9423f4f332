/- The statement LinkWins. -/
import Derived.Test.YtkmndplicmaahaaFlw
import Derived.Test.YtkmndplicmaahaaKn
namespace Go.Proofs.Ytkmndplicmaahaa
open Go.RowKit
set_option linter.unusedVariables false
attribute [local irreducible] K.KW K.RW K.DW K.OW K.QR K.KC
theorem ground0_peek {n t k : Nat} {i : Int} (h : 0 ≤ i ∧ i < (n : Int) * 8) : (groundM n t k []).peek n i = some 0 := by
 show (MemM.of (DevM.fresh (List.replicate (n * 8) 0) n t) k).peek n i = some 0
 rw [peek_dev h]
 show some ((List.replicate (n * 8) (0 : Int)).getD i.toNat 0) = some 0
 have : i.toNat < n * 8 := by omega
 simp [this]
set_option maxHeartbeats 1000000 in
set_option maxRecDepth 100000 in
theorem l13wins_ok (w0 : World) (c : Cfg) (a : Option Addr) (cap : Nat) (xs : List Int) (hx8 : ∀ i, i < xs.length → 0 ≤ xs.getD i 0 ∧ xs.getD i 0 ≤ 255) (hm : xs.length ≤ 9223372036854775807) (hx : K.RowE w0 a xs.length 1 (fun i => cU8 (xs.getD i 0))) :
  K.GC Try.prog w0 4 #[.agg #[.int .i64 c.th, .int .i64 c.sl, .int .i64 c.lo, .int .i64 c.bu], .slice a xs.length cap] [] (fun v post => v = .bool true) := by
 refine K.GC.mk (n := 149) Try.func4 rfl rfl [.agg #[.int .i64 c.th, .int .i64 c.sl, .int .i64 c.lo, .int .i64 c.bu], .slice a xs.length cap] rfl rfl ?_
 intro fr w hS
 replace hS : K.Sat w0 [fr] w := hS
 refine K.s (K.g ?_)
 refine K.l (K.OW.gnew 23 [.int .i64 c.th, .int .i64 c.sl, .int .i64 c.lo, .int .i64 c.bu] hS ?_)
 clear hS; intro w r_1 g_2 hg_3 hS
 refine K.q [.bool false] (K.z (K.t (K.s (K.s (K.g ?_)))))
 refine K.a (K.QR.ldN [.int .i64 c.th, .int .i64 c.sl, .int .i64 c.lo, .int .i64 c.bu] rfl rfl (by kernel_rfl) (by kernel_rfl) (K.cells (K.cl ((hS.blk 0 rfl hg_3).cell rfl) (K.cl ((hS.blk 0 rfl hg_3).cell rfl) (K.cl ((hS.blk 0 rfl hg_3).cell rfl) (K.cl ((hS.blk 0 rfl hg_3).cell rfl) K.cl0)))))) ?_
 refine K.l (K.OW.gcall hS [] [0, 1] [.agg #[.int .i64 c.th, .int .i64 c.sl, .int .i64 c.lo, .int .i64 c.bu]] (few09_ok _ c) ?_)
 clear hS; rintro _ _ w ⟨rfl, (⟨rfl, h_4⟩ | ⟨rfl, h_5⟩)⟩ hS
 ·
  replace hS : K.Sat w0 [g_2, fr] w := hS
  have hc_6 := h_4.1
  obtain ⟨hf_7, hf_8, hf_9, hf_10, hf_11⟩ := (show _ from (by have h := h_4; unfold fewC cfgOk at h; exact h))
  refine K.q [.bool false, .bool false, .slice a xs.length cap] ?_
  refine K.a (K.QR.len (P := Try.prog) rfl rfl Try.underlying53) ?_
  by_cases h_12 : (((xs.length : Nat) : Int) : Int) > (300 : Int)
  ·
   refine K.y ((((xs.length : Nat) : Int) : Int) > (300 : Int)) h_12 ?_
   refine K.q [.bool true] (K.z (K.t (K.h (K.s (K.g ?_)))))
   refine K.l (K.OW.gcall hS [] [0, 1] [] (awake13_ok _) ?_)
   clear hS; rintro _ _ w ⟨rfl, rfl⟩ hS
   replace hS : K.Sat w0 [g_2, fr] w := hS
   refine K.q [.bool true] (K.z (K.t (K.r (K.u ?_))))
   refine ⟨.inr rfl, rfl, (.bool true), K.res1 rfl rfl, [], ?_, hS.pick [1]⟩
   exact rfl
  ·
   refine K.x ((((xs.length : Nat) : Int) : Int) > (300 : Int)) h_12 ?_
   refine K.q [.bool false] (K.z (K.t (K.f (K.k (K.t (K.s (K.g ?_)))))))
   refine K.a (K.QR.ldN [.int .i64 c.th, .int .i64 c.sl, .int .i64 c.lo, .int .i64 c.bu] rfl rfl (by kernel_rfl) (by kernel_rfl) (K.cells (K.cl ((hS.blk 0 rfl hg_3).cell rfl) (K.cl ((hS.blk 0 rfl hg_3).cell rfl) (K.cl ((hS.blk 0 rfl hg_3).cell rfl) (K.cl ((hS.blk 0 rfl hg_3).cell rfl) K.cl0)))))) ?_
   refine K.a (K.QR.bd [(0, .agg #[.int .i64 c.th, .int .i64 c.sl, .int .i64 c.lo, .int .i64 c.bu])] [.int .i64 c.th, .int .i64 c.sl, .int .i64 c.lo, .int .i64 c.bu, .slice none 0 0] rfl rfl (by kernel_rfl)) ?_
   refine K.l (K.OW.gcall hS [52] [0, 1] [.agg #[.int .i64 c.th, .int .i64 c.sl, .int .i64 c.lo, .int .i64 c.bu, .slice none 0 0]] (layS_ok _ c _ _ [] (fun j hj => absurd hj (by simp)) (⟨by assumption, by simp⟩) _ (fun _ _ => K.RowE.zero _ _ _ _)) ?_)
   clear hS; rintro _ _ w ⟨b_13, p_14, q_15, r_16, u_17, _, _, gl_18, l_19, m_20, rfl, rfl, hl_21, x_22, y_23, rfl, rfl, hf_24, hp_25⟩ hS
   replace hS : K.Sat w0 [gl_18, l_19, m_20, g_2, fr] w := hS.of (by simp [K.pick, K.nth])
   have hok0 := (MemAt.isok x_22).1
   have hM0 : (groundM ((lns c).toNat) (c.th.toNat) (2 + c.th + c.sl).toNat []).good := ground_good (fun j hj => absurd hj (by simp))
   have hlb := lay_bd (c := c) (by assumption)
   have hp0 : (groundM ((lns c).toNat) (c.th.toNat) (2 + c.th + c.sl).toNat []).peek ((lns c).toNat) 20 = some 0 := ground0_peek (by omega)
   generalize groundM ((lns c).toNat) (c.th.toNat) (2 + c.th + c.sl).toNat [] = M0 at x_22 hok0 hM0 hp0
   refine K.q [.tuple #[.pointer (some ⟨b_13, 0, none⟩), .pointer (some ⟨p_14, 0, none⟩), .pointer (some ⟨r_16, 0, none⟩), .bool true], .pointer (some ⟨b_13, 0, none⟩), .pointer (some ⟨p_14, 0, none⟩), .pointer (some ⟨r_16, 0, none⟩), .bool true, .pointer (some ⟨b_13, 0, none⟩), .pointer (some ⟨p_14, 0, none⟩), .pointer (some ⟨r_16, 0, none⟩), .bool true] (K.z (K.t (K.s (K.g (K.q [.slice none 0 0] (K.z (K.t (K.s (K.s (K.g (K.q [.int .i64 0] (K.z (K.t ?_)))))))))))))
   refine K.KW.block ?_
   obtain ⟨z_26, hz_27⟩ : ∃ z : K.Cs, z = [] := ⟨_, rfl⟩
   replace hS : K.Sat w0 [z_26, gl_18, l_19, m_20, g_2, fr] w := hS.of (by simp [hz_27])
   have o_28 : K.OwnG z_26 50 1 none 0 0 [] := by rw [hz_27]; exact K.OwnG.nil _ _
   obtain ⟨z_29, hz_30⟩ : ∃ z : K.Cs, z = [] := ⟨_, rfl⟩
   have hb_31 : K.Blks setEl [] (sets0 0) z_29 := by rw [hz_30]; exact K.Blks.nil
   replace hS : K.Sat w0 [z_26, gl_18, l_19, m_20, g_2, fr, z_29] w := hS.of (by simp [hz_30])
   refine K.KW.loop (fun m_ F_ w_ => ∃ (j : Nat) (vs : List Value) (q1 : Option Addr) (c1 : Nat) (o1 : K.Cs) (b1 : K.Cs), m_ = c.th.toNat - j ∧ K.Sl F_ [(0, .agg #[.int .i64 c.th, .int .i64 c.sl, .int .i64 c.lo, .int .i64 c.bu]), (1, .slice a xs.length cap), (2, .pointer (some ⟨r_1, 0, none⟩)), (4, .bool false), (6, .pointer (some ⟨p_14, 0, none⟩)), (8, .bool true), (9, .slice q1 j c1), (10, .int .i64 ((j : Nat) : Int)), (149, undef)] ∧ j ≤ c.th.toNat ∧ vs.length = j ∧ K.OwnG o1 50 1 q1 j c1 ((vs).flatMap cVal) ∧ K.Blks setEl vs (sets0 j) b1 ∧ K.Sat w0 [o1, gl_18, l_19, m_20, g_2, fr, b1] w_) ((fun (j : Nat) (vs : List Value) (q1 : Option Addr) (c1 : Nat) => c.th.toNat - j) 0 [] none 0) ?_ ?_
   ·
    exact ⟨0, [], none, 0, z_26, z_29, rfl, ⟨by rfl, by rfl, by rfl, by rfl, by rfl, by rfl, by rfl, by rfl, by rfl, trivial⟩, (by omega), (rfl), o_28, hb_31, hS.pick [0, 1, 2, 3, 4, 5, 6]⟩
   ·
    clear hS
    intro m_32 F_33 w hI
    obtain ⟨j, vs, q1, c1, o1, b1, rfl, sl_34, p_35, hvs, x_36, x_37, hS⟩ := hI
    rw [← K.Sl.puts sl_34]; clear sl_34
    refine K.s (K.s (K.g (K.q [.int .i64 ((j : Nat) : Int), .pointer (some ⟨r_1, 0, none⟩)] ?_)))
    refine K.d (.int .i64 c.th) ((hS.blk 4 rfl hg_3).cell rfl) ?_
    by_cases h_38 : (((j : Nat) : Int) : Int) < (c.th : Int)
    ·
     refine K.y ((((j : Nat) : Int) : Int) < (c.th : Int)) h_38 ?_
     refine K.z (K.t (K.h (K.k (K.t (K.s ?_)))))
     refine K.KW.block ?_
     refine K.g (K.q [.slice q1 j c1, .int .i64 ((j : Nat) : Int), .int .i64 ((j : Nat) : Int)] ?_)
     refine K.l (K.OW.gcall hS [] [0, 1, 2, 3, 4, 5, 6] [.int .i64 ((j : Nat) : Int), .int .i64 (-1)] (link_ok _ ((j : Nat) : Int) ((-1) : Int) (by omega) (by omega)) ?_)
     clear hS; rintro _ _ w ⟨rfl, rfl⟩ hS
     replace hS : K.Sat w0 [o1, gl_18, l_19, m_20, g_2, fr, b1] w := hS
     have hw_39 : isW (linkI ((j : Nat) : Int) ((-1) : Int)) := linkI_w _ _
     refine K.l (K.OW.gcall hS [] [0, 1, 2, 3, 4, 5, 6] [.int .i64 ((j : Nat) : Int), .int .i64 20, .int .u64 0, .int .u64 (linkI ((j : Nat) : Int) ((-1) : Int))] (newse_ok _ ((j : Nat) : Int) (by first | omega | assumption) (20 : Int) (by first | omega | assumption) (0 : Int) (by first | assumption | exact isL.w (by assumption) | (unfold isW; omega) | exact rdWord_w (by assumption)) (linkI ((j : Nat) : Int) ((-1) : Int)) (by first | assumption | exact isL.w (by assumption) | (unfold isW; omega) | exact rdWord_w (by assumption))) ?_)
     clear hS; rintro _ _ w ⟨p_40, g_41, rfl, rfl, h_42⟩ hS
     replace hS : K.Sat w0 [g_41, o1, gl_18, l_19, m_20, g_2, fr, b1] w := hS
     have hS_43 : SeS.good (⟨((j : Nat) : Int), (20 : Int), 0, (cleanI (linkI ((j : Nat) : Int) ((-1) : Int))), -1, (cleanI (0 : Int)), false, 0⟩ : SeS) := seInit (by omega) (by omega)
     refine K.l (K.OW.gbs [(0, .pointer (some ⟨p_40, 0, none⟩))] [.pointer (some ⟨p_40, 0, none⟩)] hS (fun w => K.bs_run (P := Try.prog) w 54 50 1 _ _ Try.underlying54 (by kernel_rfl)) ?_)
     clear hS; intro w r_44 g_45 hg_46 hS
     refine K.l (K.OW.gapp (P := Try.prog) (xs := (vs).flatMap cVal) (z := .pointer none) (size := 1) (bytes := 8) 2 [.pointer (some ⟨p_40, 0, none⟩)] hS x_36 ?_ (fun j u hj => (by rw [Nat.zero_add]; exact (hS.blk 0 rfl hg_46).cell hj)) (K.one_cells (by rfl)) (by rfl) Try.underlying54 (by kernel_rfl) rfl (by decide) (by unfold maxLen; omega) (by omega))
     clear hS; intro a_47 cap_48 w l_49 o_50 hS
     have ln_51 : ((vs ++ [(.pointer (some ⟨p_40, 0, none⟩) : Value)])).length = j + 1 := by rw [List.length_append, hvs]; rfl
     have o_50c := K.OwnG.cast (xs' := ((vs ++ [(.pointer (some ⟨p_40, 0, none⟩) : Value)])).flatMap cVal) o_50 rfl (K.fl_snoc cVal vs _ rfl)
     replace hS : K.Sat w0 [g_45, g_41, l_49, gl_18, l_19, m_20, g_2, fr, b1] w := hS
     refine K.q [.slice a_47 (j + 1) cap_48] (K.z ?_)
     refine K.blk_normal ?_
     refine K.t (K.g (K.q [.int .i64 ((j : Nat) : Int)] ?_))
     refine K.a (K.QR.n64 ((((j : Nat) : Int) : Int) + (1 : Int)) ((j + 1 : Nat) : Int) (by kernel_rfl) (by omega)) ?_
     refine K.q [.int .i64 ((j + 1 : Nat) : Int)] (K.z (K.t ?_))
     replace hS : K.Sat w0 [[b1, g_41].flatten, g_45, l_49, gl_18, l_19, m_20, g_2, fr] w := (hS.pick [8, 1, 0, 2, 3, 4, 5, 6, 7]).of
     have hb_52 : K.Blks setEl (vs ++ [.pointer (some ⟨p_40, 0, none⟩)]) (sets0 (j + 1)) ([b1, g_41].flatten) := by rw [sets0_succ]; exact K.Blks.snoc x_37 ⟨_, rfl, h_42⟩
     generalize [b1, g_41].flatten = lb_53 at hS hb_52
     refine ⟨_, ?_, j + 1, (vs ++ [.pointer (some ⟨p_40, 0, none⟩)]), a_47, cap_48, l_49, lb_53, rfl, ⟨by rfl, by rfl, by rfl, by rfl, by rfl, by rfl, by rfl, by rfl, by rfl, trivial⟩, (by omega), (by simp [hvs]), o_50c, hb_52, hS.pick [2, 3, 4, 5, 6, 7, 0]⟩
     omega
    ·
     refine K.x ((((j : Nat) : Int) : Int) < (c.th : Int)) h_38 ?_
     refine K.z (K.t (K.f ?_))
     refine K.KW.exit ?_
     refine K.thn_exit ?_
     refine K.thn_exit ?_
     refine K.blk_hit ?_
     refine K.t (K.s (K.g (K.q [.int .i64 (-1)] (K.z (K.t (K.s (K.s (K.g (K.q [.int .i64 0] (K.z (K.t ?_)))))))))))
     refine K.KW.block ?_
     have hj : (j : Int) = c.th := by omega
     obtain ⟨b_54, rfl⟩ := x_36.some_ (by have := x_36.le; omega)
     replace hS : K.Sat w0 [[o1, b1].flatten, gl_18, l_19, m_20, g_2, fr] w := (hS.pick [0, 6, 1, 2, 3, 4, 5]).of
     have hd_56 : K.HandsC setEl 50 1 c1 ([o1, b1].flatten) (some ⟨b_54, 0, none⟩) (sets0 j) := K.Blks.hands x_37 (sets0_len j).symm x_36
     generalize [o1, b1].flatten = ld_57 at hS hd_56
     refine K.KW.loop (fun m_ F_ w_ => ∃ (i : Nat) (won : Int) (hs : List SeS) (M : MemM) (hd1 : K.Cs) (l_M : K.Cs), m_ = (xs.length + 5 * j) - i ∧ K.Sl F_ [(0, .agg #[.int .i64 c.th, .int .i64 c.sl, .int .i64 c.lo, .int .i64 c.bu]), (1, .slice a xs.length cap), (4, .bool false), (6, .pointer (some ⟨p_14, 0, none⟩)), (8, .bool true), (9, .slice (some ⟨b_54, 0, none⟩) j c1), (11, .int .i64 won), (12, .int .i64 ((i : Nat) : Int)), (149, undef)] ∧ i ≤ xs.length + 5 * j ∧ WInv ((lns c).toNat) (c.th.toNat) j won (i - xs.length) hs M ∧ K.HandsC setEl 50 1 c1 hd1 ((some ⟨b_54, 0, none⟩)) hs ∧ MemAt l_M p_14 q_15 ((lns c).toNat) (c.th.toNat) M ∧ K.Sat w0 [hd1, gl_18, l_M, m_20, g_2, fr] w_) ((fun (i : Nat) (won : Int) (hs : List SeS) (M : MemM) => (xs.length + 5 * j) - i) 0 (-1) (sets0 j) M0) ?_ ?_
     ·
      exact ⟨0, (-1), (sets0 j), M0, ld_57, l_19, rfl, ⟨by rfl, by rfl, by rfl, by rfl, by rfl, by rfl, by rfl, by rfl, by rfl, trivial⟩, (by omega), (by rw [Nat.zero_sub]; exact WInv.start (by omega) (by omega) hok0 hM0 hp0), hd_56, x_22, hS.pick [0, 1, 2, 3, 4, 5]⟩
     ·
      clear hS
      intro m_58 F_59 w hI
      obtain ⟨i, won, hs, M, hd1, l_M, rfl, sl_60, p_61, hI, x_62, x_63, hS⟩ := hI
      rw [← K.Sl.puts sl_60]; clear sl_60
      refine K.s (K.s (K.g (K.q [.int .i64 ((i : Nat) : Int), .slice a xs.length cap] ?_)))
      refine K.a (K.QR.len (P := Try.prog) rfl rfl Try.underlying53) ?_
      refine K.q [.slice (some ⟨b_54, 0, none⟩) j c1] ?_
      refine K.a (K.QR.len (P := Try.prog) rfl rfl Try.underlying54) ?_
      refine K.a (K.QR.n64 ((5 : Int) * (((j : Nat) : Int) : Int)) ((5 * j : Nat) : Int) (by kernel_rfl) (by omega)) ?_
      refine K.a (K.QR.n64 ((((xs.length : Nat) : Int) : Int) + (((5 * j : Nat) : Int) : Int)) ((xs.length + 5 * j : Nat) : Int) (by kernel_rfl) (by omega)) ?_
      by_cases h_64 : (((i : Nat) : Int) : Int) < (((xs.length + 5 * j : Nat) : Int) : Int)
      ·
       refine K.y ((((i : Nat) : Int) : Int) < (((xs.length + 5 * j : Nat) : Int) : Int)) h_64 ?_
       refine K.z (K.t (K.h (K.k (K.t (K.s ?_)))))
       refine K.KW.block ?_
       refine K.s ?_
       by_cases h_65 : (((i : Nat) : Int) : Int) < (((xs.length : Nat) : Int) : Int)
       ·
        have hhs := hI.len
        have hMg := hI.good
        refine K.g (K.q [.int .i64 ((i : Nat) : Int), .slice a xs.length cap] ?_)
        refine K.a (K.QR.len (P := Try.prog) rfl rfl Try.underlying53) ?_
        refine K.a (K.QR.n64 ((((i : Nat) : Int) : Int) - (((xs.length : Nat) : Int) : Int)) ((((i : Nat) : Int) : Int) - (((xs.length : Nat) : Int) : Int)) (by kernel_rfl) (by omega)) ?_
        refine K.q [.int .i64 (IntKind.i64.wrap (Int.tdiv ((((i : Nat) : Int) : Int) - (((xs.length : Nat) : Int) : Int)) 5)), .int .i64 (IntKind.i64.wrap (Int.tdiv ((((i : Nat) : Int) : Int) - (((xs.length : Nat) : Int) : Int)) 5))] (K.z (K.t (K.s (K.s (K.g (K.q [.int .i64 ((i : Nat) : Int), .slice a xs.length cap] ?_))))))
        refine K.a (K.QR.len (P := Try.prog) rfl rfl Try.underlying53) ?_
        refine K.y ((((i : Nat) : Int) : Int) < (((xs.length : Nat) : Int) : Int)) h_65 ?_
        refine K.z (K.t (K.h ?_))
        have hx8j := hx8 i (by omega)
        have hrl : 0 ≤ ((xs.getD i 0 : Int)) % ((j : Int)) ∧ ((xs.getD i 0 : Int)) % ((j : Int)) < (j : Int) := ⟨Int.emod_nonneg _ (by omega), Int.emod_lt_of_pos _ (by omega)⟩
        obtain ⟨tk, htk⟩ : ∃ q : Nat, (((xs.getD i 0 : Int)) % ((j : Int)) : Int) = q := ⟨(((xs.getD i 0 : Int)) % ((j : Int)) : Int).toNat, by omega⟩
        obtain ⟨b_66, of_67, rfl, _⟩ := hx.at_ (by omega)
        refine K.g (K.q [.slice (some ⟨b_66, of_67, none⟩) xs.length cap, .int .i64 ((i : Nat) : Int)] ?_)
        refine K.a (K.QR.ix (of_67 + i * 1) 1 rfl rfl rfl Try.underlying53 (by kernel_rfl) (by omega) (by first | (simp; done) | omega | (simp; omega))) ?_
        refine K.d (.int .u8 (xs.getD i 0)) ((hx.no hS.chg).ld i (by omega) 0 _ rfl) ?_
        refine K.a (K.QR.nice (v := .int .i64 (IntKind.i64.wrap (xs.getD i 0))) (by kernel_rfl) (congrArg (Value.int .i64) (IntWalk.i64_in _ (by omega)))) ?_
        refine K.q [.slice (some ⟨b_54, 0, none⟩) j c1] ?_
        refine K.a (K.QR.len (P := Try.prog) rfl rfl Try.underlying54) ?_
        refine K.a (K.QR.remV rfl rfl rfl (by omega) (by omega) htk) ?_
        refine K.q [.int .i64 ((tk : Nat) : Int)] (K.z (K.t (K.s ?_)))
        obtain ⟨S, hSt_68⟩ := K.ex_at (hs := hs) (t := tk) (by omega)
        obtain ⟨row_69, hA_70, hg_71, hB_72, cs_73, rfl, hcs_74, hall_75, htl_76, hct_77, hel_78, how_79, hcl_80⟩ := x_62.open_ tk S hSt_68
        replace hS : K.Sat w0 [row_69, hA_70, hg_71, hB_72, gl_18, l_M, m_20, g_2, fr] w := hS.of
        obtain ⟨p_81, hce_82, hge_83⟩ := hel_78
        rw [hce_82] at how_79
        replace hS : K.Sat w0 [row_69, hA_70, hg_71, hB_72, gl_18, l_M, m_20, g_2, fr] w := hS.of (by simp [K.pick, K.nth])
        have hSg := (hI.each tk S hSt_68).good
        refine K.g (K.q [.slice (some ⟨b_54, 0, none⟩) j c1, .int .i64 ((tk : Nat) : Int)] ?_)
        refine K.a (K.QR.ix tk 1 rfl rfl rfl Try.underlying54 (by kernel_rfl) (by omega) (by first | (simp; done) | omega | (simp; omega))) ?_
        refine K.d (.pointer (some ⟨p_81, 0, none⟩)) (K.row_at1 (hS.ownr 0 rfl how_79) hcs_74 hall_75 rfl htl_76 rfl) ?_
        refine K.q [.pointer (some ⟨p_14, 0, none⟩)] ?_
        refine K.l (K.OW.gcall hS [2, 5] [0, 1, 3, 4, 6, 7, 8] [.pointer (some ⟨p_81, 0, none⟩), .pointer (some ⟨p_14, 0, none⟩)] (seStep_ok _ _ _ _ _ _ S M _ _ hge_83 x_63 (by assumption) (by assumption)) ?_)
        clear hS; rintro _ _ w ⟨g_84, l_85, rfl, rfl, h_86, x_87⟩ hS
        replace hS : K.Sat w0 [g_84, l_85, row_69, hA_70, hB_72, gl_18, m_20, g_2, fr] w := hS
        obtain ⟨hS_88, hM_89⟩ := (seStep_good (by assumption) (by assumption) : (seStep ((lns c).toNat) (c.th.toNat) S M).1.good ∧ (seStep ((lns c).toNat) (c.th.toNat) S M).2.good)
        refine K.z (K.t (K.s (K.g (K.q [.slice (some ⟨b_54, 0, none⟩) j c1, .int .i64 ((tk : Nat) : Int)] ?_))))
        refine K.a (K.QR.ix tk 1 rfl rfl rfl Try.underlying54 (by kernel_rfl) (by omega) (by first | (simp; done) | omega | (simp; omega))) ?_
        refine K.d (.pointer (some ⟨p_81, 0, none⟩)) (K.row_at1 (hS.ownr 2 rfl how_79) hcs_74 hall_75 rfl htl_76 rfl) ?_
        refine K.l (K.OW.gcall hS [0] [1, 2, 3, 4, 5, 6, 7, 8] [.pointer (some ⟨p_81, 0, none⟩)] (sePut_ok _ _ (seStep ((lns c).toNat) (c.th.toNat) S M).1 _ h_86) ?_)
        clear hS; rintro _ _ w ⟨rfl, rfl⟩ hS
        replace hS : K.Sat w0 [g_84, l_85, row_69, hA_70, hB_72, gl_18, m_20, g_2, fr] w := hS
        cases hb_90 : (seStep ((lns c).toNat) (c.th.toNat) S M).1.put
        ·
         refine K.q [.bool false] (K.n_ (K.n_ (K.q [.bool false] (K.z (K.t (K.f (K.k ?_)))))))
         refine K.blk_normal ?_
         refine K.t (K.g (K.q [.int .i64 ((i : Nat) : Int)] ?_))
         refine K.a (K.QR.n64 ((((i : Nat) : Int) : Int) + (1 : Int)) ((i + 1 : Nat) : Int) (by kernel_rfl) (by omega)) ?_
         refine K.q [.int .i64 ((i + 1 : Nat) : Int)] (K.z (K.t ?_))
         have hI2 := WInv.step (k' := i + 1 - xs.length) hI (by omega) (by omega) hSt_68 (.inl (by omega))
         have hd_91 : K.HandsC setEl 50 1 c1 (row_69 ++ (hA_70 ++ ([g_84].flatten ++ hB_72))) ((some ⟨b_54, 0, none⟩)) (hs.set tk ((seStep ((lns c).toNat) (c.th.toNat) S M).1)) := hcl_80 _ _ _ [.pointer (some ⟨p_81, 0, none⟩)] rfl ⟨_, rfl, by simp [h_86]⟩ how_79
         replace hS : K.Sat w0 [(row_69 ++ (hA_70 ++ ([g_84].flatten ++ hB_72))), l_85, gl_18, m_20, g_2, fr] w := (hS.pick [2, 3, 0, 4, 1, 5, 6, 7, 8]).of (by simp [K.pick, K.nth])
         generalize (row_69 ++ (hA_70 ++ ([g_84].flatten ++ hB_72))) = ld_92 at hS hd_91
         refine ⟨_, ?_, i + 1, won, (hs.set tk (seStep ((lns c).toNat) (c.th.toNat) S M).1), ((seStep ((lns c).toNat) (c.th.toNat) S M).2), ld_92, l_85, rfl, ⟨by rfl, by rfl, by rfl, by rfl, by rfl, by rfl, by rfl, by rfl, by rfl, trivial⟩, (by omega), (by rw [if_neg (fun h => absurd h.1 (by rw [hb_90]; decide))] at hI2; exact hI2), hd_91, x_87, hS.pick [0, 2, 1, 3, 4, 5]⟩
         omega
        ·
         refine K.q [.bool true, .int .i64 won] ?_
         by_cases h_93 : (won : Int) = ((-1) : Int)
         ·
          refine K.ye (won : Int) ((-1) : Int) h_93 ?_
          refine K.q [.bool true] (K.z (K.t (K.h (K.g (K.q [.int .i64 ((tk : Nat) : Int), .int .i64 ((tk : Nat) : Int)] (K.z ?_))))))
          refine K.blk_normal ?_
          refine K.t (K.g (K.q [.int .i64 ((i : Nat) : Int)] ?_))
          refine K.a (K.QR.n64 ((((i : Nat) : Int) : Int) + (1 : Int)) ((i + 1 : Nat) : Int) (by kernel_rfl) (by omega)) ?_
          refine K.q [.int .i64 ((i + 1 : Nat) : Int)] (K.z (K.t ?_))
          have hI2 := WInv.step (k' := i + 1 - xs.length) hI (by omega) (by omega) hSt_68 (.inl (by omega))
          have hd_94 : K.HandsC setEl 50 1 c1 (row_69 ++ (hA_70 ++ ([g_84].flatten ++ hB_72))) ((some ⟨b_54, 0, none⟩)) (hs.set tk ((seStep ((lns c).toNat) (c.th.toNat) S M).1)) := hcl_80 _ _ _ [.pointer (some ⟨p_81, 0, none⟩)] rfl ⟨_, rfl, by simp [h_86]⟩ how_79
          replace hS : K.Sat w0 [(row_69 ++ (hA_70 ++ ([g_84].flatten ++ hB_72))), l_85, gl_18, m_20, g_2, fr] w := (hS.pick [2, 3, 0, 4, 1, 5, 6, 7, 8]).of (by simp [K.pick, K.nth])
          generalize (row_69 ++ (hA_70 ++ ([g_84].flatten ++ hB_72))) = ld_95 at hS hd_94
          refine ⟨_, ?_, i + 1, (tk : Int), (hs.set tk (seStep ((lns c).toNat) (c.th.toNat) S M).1), ((seStep ((lns c).toNat) (c.th.toNat) S M).2), ld_95, l_85, rfl, ⟨by rfl, by rfl, by rfl, by rfl, by rfl, by rfl, by rfl, by rfl, by rfl, trivial⟩, (by omega), (by rw [if_pos ⟨hb_90, h_93⟩] at hI2; exact hI2), hd_94, x_87, hS.pick [0, 2, 1, 3, 4, 5]⟩
          omega
         ·
          refine K.xe (won : Int) ((-1) : Int) h_93 ?_
          refine K.q [.bool false] (K.z (K.t (K.f (K.k ?_))))
          refine K.blk_normal ?_
          refine K.t (K.g (K.q [.int .i64 ((i : Nat) : Int)] ?_))
          refine K.a (K.QR.n64 ((((i : Nat) : Int) : Int) + (1 : Int)) ((i + 1 : Nat) : Int) (by kernel_rfl) (by omega)) ?_
          refine K.q [.int .i64 ((i + 1 : Nat) : Int)] (K.z (K.t ?_))
          have hI2 := WInv.step (k' := i + 1 - xs.length) hI (by omega) (by omega) hSt_68 (.inl (by omega))
          have hd_96 : K.HandsC setEl 50 1 c1 (row_69 ++ (hA_70 ++ ([g_84].flatten ++ hB_72))) ((some ⟨b_54, 0, none⟩)) (hs.set tk ((seStep ((lns c).toNat) (c.th.toNat) S M).1)) := hcl_80 _ _ _ [.pointer (some ⟨p_81, 0, none⟩)] rfl ⟨_, rfl, by simp [h_86]⟩ how_79
          replace hS : K.Sat w0 [(row_69 ++ (hA_70 ++ ([g_84].flatten ++ hB_72))), l_85, gl_18, m_20, g_2, fr] w := (hS.pick [2, 3, 0, 4, 1, 5, 6, 7, 8]).of (by simp [K.pick, K.nth])
          generalize (row_69 ++ (hA_70 ++ ([g_84].flatten ++ hB_72))) = ld_97 at hS hd_96
          refine ⟨_, ?_, i + 1, won, (hs.set tk (seStep ((lns c).toNat) (c.th.toNat) S M).1), ((seStep ((lns c).toNat) (c.th.toNat) S M).2), ld_97, l_85, rfl, ⟨by rfl, by rfl, by rfl, by rfl, by rfl, by rfl, by rfl, by rfl, by rfl, trivial⟩, (by omega), (by rw [if_neg (fun h => h_93 h.2)] at hI2; exact hI2), hd_96, x_87, hS.pick [0, 2, 1, 3, 4, 5]⟩
          omega
       ·
        have hhs := hI.len
        have hMg := hI.good
        obtain ⟨tk, htk⟩ : ∃ q : Nat, q = (i - xs.length) / 5 := ⟨_, rfl⟩
        refine K.g (K.q [.int .i64 ((i : Nat) : Int), .slice a xs.length cap] ?_)
        refine K.a (K.QR.len (P := Try.prog) rfl rfl Try.underlying53) ?_
        refine K.a (K.QR.n64 ((((i : Nat) : Int) : Int) - (((xs.length : Nat) : Int) : Int)) ((((i : Nat) : Int) : Int) - (((xs.length : Nat) : Int) : Int)) (by kernel_rfl) (by omega)) ?_
        refine K.a (K.QR.quoi64 ((((i : Nat) : Int) : Int) - (((xs.length : Nat) : Int) : Int) : Int) 5 (tk : Int) (by kernel_rfl) (by omega) (by omega)) ?_
        refine K.q [.int .i64 ((tk : Nat) : Int)] (K.z (K.t (K.s (K.s (K.g (K.q [.int .i64 ((i : Nat) : Int), .slice a xs.length cap] ?_))))))
        refine K.a (K.QR.len (P := Try.prog) rfl rfl Try.underlying53) ?_
        refine K.x ((((i : Nat) : Int) : Int) < (((xs.length : Nat) : Int) : Int)) h_65 ?_
        refine K.z (K.t (K.f (K.k (K.t (K.s ?_)))))
        obtain ⟨S, hSt_98⟩ := K.ex_at (hs := hs) (t := tk) (by omega)
        obtain ⟨row_99, hA_100, hg_101, hB_102, cs_103, rfl, hcs_104, hall_105, htl_106, hct_107, hel_108, how_109, hcl_110⟩ := x_62.open_ tk S hSt_98
        replace hS : K.Sat w0 [row_99, hA_100, hg_101, hB_102, gl_18, l_M, m_20, g_2, fr] w := hS.of
        obtain ⟨p_111, hce_112, hge_113⟩ := hel_108
        rw [hce_112] at how_109
        replace hS : K.Sat w0 [row_99, hA_100, hg_101, hB_102, gl_18, l_M, m_20, g_2, fr] w := hS.of (by simp [K.pick, K.nth])
        have hSg := (hI.each tk S hSt_98).good
        refine K.g (K.q [.slice (some ⟨b_54, 0, none⟩) j c1, .int .i64 ((tk : Nat) : Int)] ?_)
        refine K.a (K.QR.ix tk 1 rfl rfl rfl Try.underlying54 (by kernel_rfl) (by omega) (by first | (simp; done) | omega | (simp; omega))) ?_
        refine K.d (.pointer (some ⟨p_111, 0, none⟩)) (K.row_at1 (hS.ownr 0 rfl how_109) hcs_104 hall_105 rfl htl_106 rfl) ?_
        refine K.q [.pointer (some ⟨p_14, 0, none⟩)] ?_
        refine K.l (K.OW.gcall hS [2, 5] [0, 1, 3, 4, 6, 7, 8] [.pointer (some ⟨p_111, 0, none⟩), .pointer (some ⟨p_14, 0, none⟩)] (seStep_ok _ _ _ _ _ _ S M _ _ hge_113 x_63 (by assumption) (by assumption)) ?_)
        clear hS; rintro _ _ w ⟨g_114, l_115, rfl, rfl, h_116, x_117⟩ hS
        replace hS : K.Sat w0 [g_114, l_115, row_99, hA_100, hB_102, gl_18, m_20, g_2, fr] w := hS
        obtain ⟨hS_118, hM_119⟩ := (seStep_good (by assumption) (by assumption) : (seStep ((lns c).toNat) (c.th.toNat) S M).1.good ∧ (seStep ((lns c).toNat) (c.th.toNat) S M).2.good)
        refine K.z (K.t (K.s (K.g (K.q [.slice (some ⟨b_54, 0, none⟩) j c1, .int .i64 ((tk : Nat) : Int)] ?_))))
        refine K.a (K.QR.ix tk 1 rfl rfl rfl Try.underlying54 (by kernel_rfl) (by omega) (by first | (simp; done) | omega | (simp; omega))) ?_
        refine K.d (.pointer (some ⟨p_111, 0, none⟩)) (K.row_at1 (hS.ownr 2 rfl how_109) hcs_104 hall_105 rfl htl_106 rfl) ?_
        refine K.l (K.OW.gcall hS [0] [1, 2, 3, 4, 5, 6, 7, 8] [.pointer (some ⟨p_111, 0, none⟩)] (sePut_ok _ _ (seStep ((lns c).toNat) (c.th.toNat) S M).1 _ h_116) ?_)
        clear hS; rintro _ _ w ⟨rfl, rfl⟩ hS
        replace hS : K.Sat w0 [g_114, l_115, row_99, hA_100, hB_102, gl_18, m_20, g_2, fr] w := hS
        cases hb_120 : (seStep ((lns c).toNat) (c.th.toNat) S M).1.put
        ·
         refine K.q [.bool false] (K.n_ (K.n_ (K.q [.bool false] (K.z (K.t (K.f (K.k ?_)))))))
         refine K.blk_normal ?_
         refine K.t (K.g (K.q [.int .i64 ((i : Nat) : Int)] ?_))
         refine K.a (K.QR.n64 ((((i : Nat) : Int) : Int) + (1 : Int)) ((i + 1 : Nat) : Int) (by kernel_rfl) (by omega)) ?_
         refine K.q [.int .i64 ((i + 1 : Nat) : Int)] (K.z (K.t ?_))
         have hI2 := WInv.step (k' := i + 1 - xs.length) hI (by omega) (by omega) hSt_98 (.inr ⟨by omega, htk⟩)
         have hd_121 : K.HandsC setEl 50 1 c1 (row_99 ++ (hA_100 ++ ([g_114].flatten ++ hB_102))) ((some ⟨b_54, 0, none⟩)) (hs.set tk ((seStep ((lns c).toNat) (c.th.toNat) S M).1)) := hcl_110 _ _ _ [.pointer (some ⟨p_111, 0, none⟩)] rfl ⟨_, rfl, by simp [h_116]⟩ how_109
         replace hS : K.Sat w0 [(row_99 ++ (hA_100 ++ ([g_114].flatten ++ hB_102))), l_115, gl_18, m_20, g_2, fr] w := (hS.pick [2, 3, 0, 4, 1, 5, 6, 7, 8]).of (by simp [K.pick, K.nth])
         generalize (row_99 ++ (hA_100 ++ ([g_114].flatten ++ hB_102))) = ld_122 at hS hd_121
         refine ⟨_, ?_, i + 1, won, (hs.set tk (seStep ((lns c).toNat) (c.th.toNat) S M).1), ((seStep ((lns c).toNat) (c.th.toNat) S M).2), ld_122, l_115, rfl, ⟨by rfl, by rfl, by rfl, by rfl, by rfl, by rfl, by rfl, by rfl, by rfl, trivial⟩, (by omega), (by rw [if_neg (fun h => absurd h.1 (by rw [hb_120]; decide))] at hI2; exact hI2), hd_121, x_117, hS.pick [0, 2, 1, 3, 4, 5]⟩
         omega
        ·
         refine K.q [.bool true, .int .i64 won] ?_
         by_cases h_123 : (won : Int) = ((-1) : Int)
         ·
          refine K.ye (won : Int) ((-1) : Int) h_123 ?_
          refine K.q [.bool true] (K.z (K.t (K.h (K.g (K.q [.int .i64 ((tk : Nat) : Int), .int .i64 ((tk : Nat) : Int)] (K.z ?_))))))
          refine K.blk_normal ?_
          refine K.t (K.g (K.q [.int .i64 ((i : Nat) : Int)] ?_))
          refine K.a (K.QR.n64 ((((i : Nat) : Int) : Int) + (1 : Int)) ((i + 1 : Nat) : Int) (by kernel_rfl) (by omega)) ?_
          refine K.q [.int .i64 ((i + 1 : Nat) : Int)] (K.z (K.t ?_))
          have hI2 := WInv.step (k' := i + 1 - xs.length) hI (by omega) (by omega) hSt_98 (.inr ⟨by omega, htk⟩)
          have hd_124 : K.HandsC setEl 50 1 c1 (row_99 ++ (hA_100 ++ ([g_114].flatten ++ hB_102))) ((some ⟨b_54, 0, none⟩)) (hs.set tk ((seStep ((lns c).toNat) (c.th.toNat) S M).1)) := hcl_110 _ _ _ [.pointer (some ⟨p_111, 0, none⟩)] rfl ⟨_, rfl, by simp [h_116]⟩ how_109
          replace hS : K.Sat w0 [(row_99 ++ (hA_100 ++ ([g_114].flatten ++ hB_102))), l_115, gl_18, m_20, g_2, fr] w := (hS.pick [2, 3, 0, 4, 1, 5, 6, 7, 8]).of (by simp [K.pick, K.nth])
          generalize (row_99 ++ (hA_100 ++ ([g_114].flatten ++ hB_102))) = ld_125 at hS hd_124
          refine ⟨_, ?_, i + 1, (tk : Int), (hs.set tk (seStep ((lns c).toNat) (c.th.toNat) S M).1), ((seStep ((lns c).toNat) (c.th.toNat) S M).2), ld_125, l_115, rfl, ⟨by rfl, by rfl, by rfl, by rfl, by rfl, by rfl, by rfl, by rfl, by rfl, trivial⟩, (by omega), (by rw [if_pos ⟨hb_120, h_123⟩] at hI2; exact hI2), hd_124, x_117, hS.pick [0, 2, 1, 3, 4, 5]⟩
          omega
         ·
          refine K.xe (won : Int) ((-1) : Int) h_123 ?_
          refine K.q [.bool false] (K.z (K.t (K.f (K.k ?_))))
          refine K.blk_normal ?_
          refine K.t (K.g (K.q [.int .i64 ((i : Nat) : Int)] ?_))
          refine K.a (K.QR.n64 ((((i : Nat) : Int) : Int) + (1 : Int)) ((i + 1 : Nat) : Int) (by kernel_rfl) (by omega)) ?_
          refine K.q [.int .i64 ((i + 1 : Nat) : Int)] (K.z (K.t ?_))
          have hI2 := WInv.step (k' := i + 1 - xs.length) hI (by omega) (by omega) hSt_98 (.inr ⟨by omega, htk⟩)
          have hd_126 : K.HandsC setEl 50 1 c1 (row_99 ++ (hA_100 ++ ([g_114].flatten ++ hB_102))) ((some ⟨b_54, 0, none⟩)) (hs.set tk ((seStep ((lns c).toNat) (c.th.toNat) S M).1)) := hcl_110 _ _ _ [.pointer (some ⟨p_111, 0, none⟩)] rfl ⟨_, rfl, by simp [h_116]⟩ how_109
          replace hS : K.Sat w0 [(row_99 ++ (hA_100 ++ ([g_114].flatten ++ hB_102))), l_115, gl_18, m_20, g_2, fr] w := (hS.pick [2, 3, 0, 4, 1, 5, 6, 7, 8]).of (by simp [K.pick, K.nth])
          generalize (row_99 ++ (hA_100 ++ ([g_114].flatten ++ hB_102))) = ld_127 at hS hd_126
          refine ⟨_, ?_, i + 1, won, (hs.set tk (seStep ((lns c).toNat) (c.th.toNat) S M).1), ((seStep ((lns c).toNat) (c.th.toNat) S M).2), ld_127, l_115, rfl, ⟨by rfl, by rfl, by rfl, by rfl, by rfl, by rfl, by rfl, by rfl, by rfl, trivial⟩, (by omega), (by rw [if_neg (fun h => h_123 h.2)] at hI2; exact hI2), hd_126, x_117, hS.pick [0, 2, 1, 3, 4, 5]⟩
          omega
      ·
       refine K.x ((((i : Nat) : Int) : Int) < (((xs.length + 5 * j : Nat) : Int) : Int)) h_64 ?_
       refine K.z (K.t (K.f ?_))
       refine K.KW.exit ?_
       refine K.thn_exit ?_
       refine K.thn_exit ?_
       refine K.blk_hit ?_
       refine K.t (K.s ?_)
       have hhs := hI.len
       have hk5 : i - xs.length = 5 * j := by omega
       rw [hk5] at hI
       have hE := hI.end_ (by omega)
       have hE1 := hE.1
       have hE2 := hE.2.1
       have hkl : M.dev.kept.length = _ := hI.ok.1
       have hkw : isW (M.dev.kept.getD 20 0) := by rw [hE.2.2.2]; exact soilI_w _
       refine K.g (K.q [.pointer (some ⟨p_14, 0, none⟩)] ?_)
       refine K.l (K.OW.gcall hS [2] [0, 1, 3, 4, 5] [.pointer (some ⟨p_14, 0, none⟩), .int .i64 20] (pkS_ok _ _ _ _ _ _ _ x_63 (20 : Int) (by first | omega | assumption | exact aft_int (by assumption) _ | exact ann_int (by assumption) _ (by first | omega | assumption)) (won + 1) (hE.2.2.1)) ?_)
       clear hS; rintro _ _ w ⟨rfl, rfl⟩ hS
       replace hS : K.Sat w0 [l_M, hd1, gl_18, m_20, g_2, fr] w := hS
       refine K.q [.tuple #[.int .u64 (won + 1), .bool true], .int .u64 (won + 1), .bool true, .int .u64 (won + 1), .bool true] (K.z (K.t (K.s (K.g (K.q [.pointer (some ⟨p_14, 0, none⟩)] ?_)))))
       refine K.l (K.OW.gcall hS [0] [1, 2, 3, 4, 5] [.pointer (some ⟨p_14, 0, none⟩)] (mDevice_ok _ _ _ _ _ _ _ x_63 ) ?_)
       clear hS; rintro _ _ w ⟨rfl, rfl⟩ hS
       replace hS : K.Sat w0 [l_M, hd1, gl_18, m_20, g_2, fr] w := hS
       refine K.l (K.OW.gcall hS [0] [1, 2, 3, 4, 5] [.pointer (some ⟨q_15, 0, none⟩)] (mdKept_ok _ _ _ _ _ _ _ x_63) ?_)
       clear hS; rintro _ _ w ⟨r_128, cc_129, l_130, rfl, rfl, o_131⟩ hS
       replace hS : K.Sat w0 [l_M, l_130, hd1, gl_18, m_20, g_2, fr] w := hS
       refine K.q [.slice r_128 M.dev.kept.length cc_129] (K.z (K.t (K.s (K.s (K.g (K.q [.int .i64 0] (K.z (K.t ?_))))))))
       refine K.KW.block ?_
       refine K.KW.loop (fun m_ F_ w_ => ∃ (u : Nat) (hd2 : K.Cs), m_ = j - u ∧ K.Sl F_ [(0, .agg #[.int .i64 c.th, .int .i64 c.sl, .int .i64 c.lo, .int .i64 c.bu]), (1, .slice a xs.length cap), (8, .bool true), (9, .slice (some ⟨b_54, 0, none⟩) j c1), (11, .int .i64 won), (14, .int .u64 (won + 1)), (16, .slice r_128 M.dev.kept.length cc_129), (17, .int .i64 ((u : Nat) : Int)), (149, undef)] ∧ u ≤ j ∧ K.HandsC setEl 50 1 c1 hd2 ((some ⟨b_54, 0, none⟩)) hs ∧ K.Sat w0 [l_M, l_130, hd2, gl_18, m_20, g_2, fr] w_) ((fun (u : Nat) => j - u) 0) ?_ ?_
       ·
        exact ⟨0, hd1, rfl, ⟨by rfl, by rfl, by rfl, by rfl, by rfl, by rfl, by rfl, by rfl, by rfl, trivial⟩, (by omega), x_62, hS.pick [0, 1, 2, 3, 4, 5, 6]⟩
       ·
        clear hS
        intro m_132 F_133 w hI
        obtain ⟨u, hd2, rfl, sl_134, p_135, x_136, hS⟩ := hI
        rw [← K.Sl.puts sl_134]; clear sl_134
        refine K.s (K.s (K.g (K.q [.int .i64 ((u : Nat) : Int), .slice (some ⟨b_54, 0, none⟩) j c1] ?_)))
        refine K.a (K.QR.len (P := Try.prog) rfl rfl Try.underlying54) ?_
        by_cases h_137 : (((u : Nat) : Int) : Int) < (((j : Nat) : Int) : Int)
        ·
         refine K.y ((((u : Nat) : Int) : Int) < (((j : Nat) : Int) : Int)) h_137 ?_
         refine K.z (K.t (K.h (K.k (K.t (K.s ?_)))))
         refine K.KW.block ?_
         refine K.s ?_
         by_cases h_138 : (((u : Nat) : Int) : Int) = (won : Int)
         ·
          obtain ⟨S2, hSt_139⟩ := K.ex_at (hs := hs) (t := u) (by omega)
          obtain ⟨row_140, hA_141, hg_142, hB_143, cs_144, rfl, hcs_145, hall_146, htl_147, hct_148, hel_149, how_150, hcl_151⟩ := x_136.open_ u S2 hSt_139
          replace hS : K.Sat w0 [l_M, l_130, row_140, hA_141, hg_142, hB_143, gl_18, m_20, g_2, fr] w := hS.of
          obtain ⟨p_152, hce_153, hge_154⟩ := hel_149
          rw [hce_153] at how_150
          replace hS : K.Sat w0 [l_M, l_130, row_140, hA_141, hg_142, hB_143, gl_18, m_20, g_2, fr] w := hS.of (by simp [K.pick, K.nth])
          refine K.g (K.q [.slice (some ⟨b_54, 0, none⟩) j c1, .int .i64 ((u : Nat) : Int)] ?_)
          refine K.a (K.QR.ix u 1 rfl rfl rfl Try.underlying54 (by kernel_rfl) (by omega) (by first | (simp; done) | omega | (simp; omega))) ?_
          refine K.d (.pointer (some ⟨p_152, 0, none⟩)) (K.row_at1 (hS.ownr 2 rfl how_150) hcs_145 hall_146 rfl htl_147 rfl) ?_
          refine K.l (K.OW.gcall hS [4] [0, 1, 2, 3, 5, 6, 7, 8, 9] [.pointer (some ⟨p_152, 0, none⟩)] (seDoneB_ok _ _ S2 _ hge_154) ?_)
          clear hS; rintro _ _ w ⟨rfl, rfl⟩ hS
          replace hS : K.Sat w0 [hg_142, l_M, l_130, row_140, hA_141, hB_143, gl_18, m_20, g_2, fr] w := hS
          cases hb_155 : S2.done
          ·cases (hb_155.symm.trans (show S2.done = true from hI.done hSt_139))
          ·
           refine K.q [.bool false, .bool false, .slice (some ⟨b_54, 0, none⟩) j c1, .int .i64 ((u : Nat) : Int)] ?_
           refine K.a (K.QR.ix u 1 rfl rfl rfl Try.underlying54 (by kernel_rfl) (by omega) (by first | (simp; done) | omega | (simp; omega))) ?_
           refine K.d (.pointer (some ⟨p_152, 0, none⟩)) (K.row_at1 (hS.ownr 3 rfl how_150) hcs_145 hall_146 rfl htl_147 rfl) ?_
           refine K.l (K.OW.gcall hS [0] [1, 2, 3, 4, 5, 6, 7, 8, 9] [.pointer (some ⟨p_152, 0, none⟩)] (sePut_ok _ _ S2 _ hge_154) ?_)
           clear hS; rintro _ _ w ⟨rfl, rfl⟩ hS
           replace hS : K.Sat w0 [hg_142, l_M, l_130, row_140, hA_141, hB_143, gl_18, m_20, g_2, fr] w := hS
           cases hb_156 : S2.put
           ·cases (hb_156.symm.trans (show S2.put = true from (hI.each u S2 hSt_139).put.2 h_138.symm))
           ·
            refine K.q [.int .i64 ((u : Nat) : Int), .int .i64 won] ?_
            refine K.ye (((u : Nat) : Int) : Int) (won : Int) h_138 ?_
            refine K.q [.bool false, .bool false] (K.z (K.t (K.f (K.k ?_))))
            refine K.blk_normal ?_
            refine K.t (K.g (K.q [.int .i64 ((u : Nat) : Int)] ?_))
            refine K.a (K.QR.n64 ((((u : Nat) : Int) : Int) + (1 : Int)) ((u + 1 : Nat) : Int) (by kernel_rfl) (by omega)) ?_
            refine K.q [.int .i64 ((u + 1 : Nat) : Int)] (K.z (K.t ?_))
            have hd_157 : K.HandsC setEl 50 1 c1 (row_140 ++ (hA_141 ++ ([hg_142].flatten ++ hB_143))) ((some ⟨b_54, 0, none⟩)) (hs.set u S2) := hcl_151 _ _ _ [.pointer (some ⟨p_152, 0, none⟩)] rfl ⟨_, rfl, by simp [hge_154]⟩ how_150
            replace hS : K.Sat w0 [(row_140 ++ (hA_141 ++ ([hg_142].flatten ++ hB_143))), l_M, l_130, gl_18, m_20, g_2, fr] w := (hS.pick [3, 4, 0, 5, 1, 2, 6, 7, 8, 9]).of (by simp [K.pick, K.nth])
            generalize (row_140 ++ (hA_141 ++ ([hg_142].flatten ++ hB_143))) = ld_158 at hS hd_157
            rw [K.hs_self hSt_139] at hd_157
            refine ⟨_, ?_, u + 1, ld_158, rfl, ⟨by rfl, by rfl, by rfl, by rfl, by rfl, by rfl, by rfl, by rfl, by rfl, trivial⟩, (by omega), hd_157, hS.pick [1, 2, 0, 3, 4, 5, 6]⟩
            omega
         ·
          obtain ⟨S2, hSt_159⟩ := K.ex_at (hs := hs) (t := u) (by omega)
          obtain ⟨row_160, hA_161, hg_162, hB_163, cs_164, rfl, hcs_165, hall_166, htl_167, hct_168, hel_169, how_170, hcl_171⟩ := x_136.open_ u S2 hSt_159
          replace hS : K.Sat w0 [l_M, l_130, row_160, hA_161, hg_162, hB_163, gl_18, m_20, g_2, fr] w := hS.of
          obtain ⟨p_172, hce_173, hge_174⟩ := hel_169
          rw [hce_173] at how_170
          replace hS : K.Sat w0 [l_M, l_130, row_160, hA_161, hg_162, hB_163, gl_18, m_20, g_2, fr] w := hS.of (by simp [K.pick, K.nth])
          refine K.g (K.q [.slice (some ⟨b_54, 0, none⟩) j c1, .int .i64 ((u : Nat) : Int)] ?_)
          refine K.a (K.QR.ix u 1 rfl rfl rfl Try.underlying54 (by kernel_rfl) (by omega) (by first | (simp; done) | omega | (simp; omega))) ?_
          refine K.d (.pointer (some ⟨p_172, 0, none⟩)) (K.row_at1 (hS.ownr 2 rfl how_170) hcs_165 hall_166 rfl htl_167 rfl) ?_
          refine K.l (K.OW.gcall hS [4] [0, 1, 2, 3, 5, 6, 7, 8, 9] [.pointer (some ⟨p_172, 0, none⟩)] (seDoneB_ok _ _ S2 _ hge_174) ?_)
          clear hS; rintro _ _ w ⟨rfl, rfl⟩ hS
          replace hS : K.Sat w0 [hg_162, l_M, l_130, row_160, hA_161, hB_163, gl_18, m_20, g_2, fr] w := hS
          cases hb_175 : S2.done
          ·cases (hb_175.symm.trans (show S2.done = true from hI.done hSt_159))
          ·
           refine K.q [.bool false, .bool false, .slice (some ⟨b_54, 0, none⟩) j c1, .int .i64 ((u : Nat) : Int)] ?_
           refine K.a (K.QR.ix u 1 rfl rfl rfl Try.underlying54 (by kernel_rfl) (by omega) (by first | (simp; done) | omega | (simp; omega))) ?_
           refine K.d (.pointer (some ⟨p_172, 0, none⟩)) (K.row_at1 (hS.ownr 3 rfl how_170) hcs_165 hall_166 rfl htl_167 rfl) ?_
           refine K.l (K.OW.gcall hS [0] [1, 2, 3, 4, 5, 6, 7, 8, 9] [.pointer (some ⟨p_172, 0, none⟩)] (sePut_ok _ _ S2 _ hge_174) ?_)
           clear hS; rintro _ _ w ⟨rfl, rfl⟩ hS
           replace hS : K.Sat w0 [hg_162, l_M, l_130, row_160, hA_161, hB_163, gl_18, m_20, g_2, fr] w := hS
           cases hb_176 : S2.put
           ·
            refine K.q [.int .i64 ((u : Nat) : Int), .int .i64 won] ?_
            refine K.xe (((u : Nat) : Int) : Int) (won : Int) h_138 ?_
            refine K.q [.bool false, .bool false] (K.z (K.t (K.f (K.k ?_))))
            refine K.blk_normal ?_
            refine K.t (K.g (K.q [.int .i64 ((u : Nat) : Int)] ?_))
            refine K.a (K.QR.n64 ((((u : Nat) : Int) : Int) + (1 : Int)) ((u + 1 : Nat) : Int) (by kernel_rfl) (by omega)) ?_
            refine K.q [.int .i64 ((u + 1 : Nat) : Int)] (K.z (K.t ?_))
            have hd_177 : K.HandsC setEl 50 1 c1 (row_160 ++ (hA_161 ++ ([hg_162].flatten ++ hB_163))) ((some ⟨b_54, 0, none⟩)) (hs.set u S2) := hcl_171 _ _ _ [.pointer (some ⟨p_172, 0, none⟩)] rfl ⟨_, rfl, by simp [hge_174]⟩ how_170
            replace hS : K.Sat w0 [(row_160 ++ (hA_161 ++ ([hg_162].flatten ++ hB_163))), l_M, l_130, gl_18, m_20, g_2, fr] w := (hS.pick [3, 4, 0, 5, 1, 2, 6, 7, 8, 9]).of (by simp [K.pick, K.nth])
            generalize (row_160 ++ (hA_161 ++ ([hg_162].flatten ++ hB_163))) = ld_178 at hS hd_177
            rw [K.hs_self hSt_159] at hd_177
            refine ⟨_, ?_, u + 1, ld_178, rfl, ⟨by rfl, by rfl, by rfl, by rfl, by rfl, by rfl, by rfl, by rfl, by rfl, trivial⟩, (by omega), hd_177, hS.pick [1, 2, 0, 3, 4, 5, 6]⟩
            omega
           ·cases (hb_176.symm.trans (show S2.put = false from Bool.eq_false_iff.2 (fun h => h_138 ((hI.each u S2 hSt_159).put.1 h).symm)))
        ·
         refine K.x ((((u : Nat) : Int) : Int) < (((j : Nat) : Int) : Int)) h_137 ?_
         refine K.z (K.t (K.f ?_))
         refine K.KW.exit ?_
         refine K.thn_exit ?_
         refine K.thn_exit ?_
         refine K.blk_hit ?_
         refine K.t (K.s (K.g ?_))
         refine K.l (K.OW.gcall hS [] [0, 1, 2, 3, 4, 5, 6] [] (awake13_ok _) ?_)
         clear hS; rintro _ _ w ⟨rfl, rfl⟩ hS
         replace hS : K.Sat w0 [l_M, l_130, hd2, gl_18, m_20, g_2, fr] w := hS
         refine K.q [.bool true, .bool true, .bool true, .bool true, .int .i64 won] ?_
         refine K.yn (won : Int) ((-1) : Int) (by omega) ?_
         refine K.q [.bool true, .bool true, .int .u64 (won + 1), .int .i64 won] ?_
         refine K.l (K.OW.gcall hS [] [0, 1, 2, 3, 4, 5, 6] [.int .i64 won, .int .i64 (-1)] (link_ok _ won ((-1) : Int) (by omega) (by omega)) ?_)
         clear hS; rintro _ _ w ⟨rfl, rfl⟩ hS
         replace hS : K.Sat w0 [l_M, l_130, hd2, gl_18, m_20, g_2, fr] w := hS
         have hw_179 : isW (linkI won ((-1) : Int)) := linkI_w _ _
         refine K.ye ((won + 1) : Int) ((linkI won ((-1) : Int)) : Int) (((link_own ⟨hE.1, by omega⟩).2).symm) ?_
         refine K.q [.bool true, .bool true, .slice r_128 M.dev.kept.length cc_129] ?_
         refine K.a (K.QR.len (P := Try.prog) rfl rfl Try.underlying46) ?_
         refine K.y ((((M.dev.kept.length : Nat) : Int) : Int) > (20 : Int)) (by omega) ?_
         refine K.q [.bool true, .bool true, .slice r_128 M.dev.kept.length cc_129] ?_
         obtain ⟨b_180, rfl⟩ := o_131.some_ (by have := o_131.le; omega)
         refine K.a (K.QR.ix 20 1 rfl rfl rfl Try.underlying46 (by kernel_rfl) (by omega) (by first | (simp; done) | omega | (simp; omega))) ?_
         refine K.d (.int .u64 (M.dev.kept.getD 20 0)) (K.Own.atS (c := cU64) (d := 0) (fun _ => rfl) (hS.ownr 1 rfl o_131) rfl 20 (by omega)) ?_
         refine K.l (K.OW.gcall hS [] [0, 1, 2, 3, 4, 5, 6] [.int .u64 (M.dev.kept.getD 20 0)] (rclean_ok _ (M.dev.kept.getD 20 0) (by first | assumption | exact isL.w (by assumption) | exact soilI_w _ | (unfold isW; omega))) ?_)
         clear hS; rintro _ _ w ⟨rfl, rfl⟩ hS
         replace hS : K.Sat w0 [l_M, l_130, hd2, gl_18, m_20, g_2, fr] w := hS
         have hw_182 : isL (cleanI (M.dev.kept.getD 20 0)) := cleanI_l _
         refine K.q [.int .u64 (won + 1)] ?_
         refine K.ye ((cleanI (M.dev.kept.getD 20 0)) : Int) ((won + 1) : Int) ((congrArg cleanI hE.2.2.2).trans (clean_soil (by unfold isL; omega))) ?_
         refine K.q [.bool true, .bool true] (K.z (K.t (K.r ?_)))
         refine ⟨.inr rfl, rfl, (.bool true), K.res1 rfl rfl, [], ?_, hS.pick [6]⟩
         exact rfl
 ·
  replace hS : K.Sat w0 [g_2, fr] w := hS
  refine K.q [.bool true, .bool true] (K.n_ (K.n_ (K.n_ (K.q [.bool true] (K.z (K.t (K.h (K.s (K.g ?_)))))))))
  refine K.l (K.OW.gcall hS [] [0, 1] [] (awake13_ok _) ?_)
  clear hS; rintro _ _ w ⟨rfl, rfl⟩ hS
  replace hS : K.Sat w0 [g_2, fr] w := hS
  refine K.q [.bool true] (K.z (K.t (K.r (K.u ?_))))
  refine ⟨.inr rfl, rfl, (.bool true), K.res1 rfl rfl, [], ?_, hS.pick [1]⟩
  exact rfl
end Go.Proofs.Ytkmndplicmaahaa
