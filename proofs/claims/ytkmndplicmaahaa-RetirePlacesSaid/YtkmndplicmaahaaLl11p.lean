/- The statement RetirePlaces. -/
import Derived.Test.YtkmndplicmaahaaFl11p
import Derived.Test.YtkmndplicmaahaaLl11s
import Derived.Test.YtkmndplicmaahaaKn
namespace Go.Proofs.Ytkmndplicmaahaa
open Go.RowKit
set_option linter.unusedVariables false
attribute [local irreducible] K.KW K.RW K.DW K.OW K.QR K.KC
set_option maxHeartbeats 1000000 in
set_option maxRecDepth 100000 in
theorem l11places_ok (w0 : World) (c : Cfg) (t : Int) (ht0 : isInt t) (a : Option Addr) (cap : Nat) (xs : List Int) (hx8 : ∀ i, i < xs.length → 0 ≤ xs.getD i 0 ∧ xs.getD i 0 ≤ 255) (hm : xs.length ≤ 9223372036854775807) (hx : K.RowE w0 a xs.length 1 (fun i => cU8 (xs.getD i 0))) :
  K.GC Try.prog w0 7 #[.agg #[.int .i64 c.th, .int .i64 c.sl, .int .i64 c.lo, .int .i64 c.bu], .int .i64 t, .slice a xs.length cap] [] (fun v post => v = .bool true) := by
 refine K.GC.mk (n := 176) Try.func7 rfl rfl [.agg #[.int .i64 c.th, .int .i64 c.sl, .int .i64 c.lo, .int .i64 c.bu], .int .i64 t, .slice a xs.length cap] rfl rfl ?_
 intro fr w hS
 replace hS : K.Sat w0 [fr] w := hS
 refine K.s (K.g ?_)
 refine K.l (K.OW.gnew 23 [.int .i64 c.th, .int .i64 c.sl, .int .i64 c.lo, .int .i64 c.bu] hS ?_)
 clear hS; intro w r_1 g_2 hg_3 hS
 refine K.q [.bool false] (K.z (K.t (K.s (K.s (K.g ?_)))))
 refine K.a (K.QR.ldN [.int .i64 c.th, .int .i64 c.sl, .int .i64 c.lo, .int .i64 c.bu] rfl rfl (by kernel_rfl) (by kernel_rfl) (K.cells (K.cl ((hS.blk 0 rfl hg_3).cell rfl) (K.cl ((hS.blk 0 rfl hg_3).cell rfl) (K.cl ((hS.blk 0 rfl hg_3).cell rfl) (K.cl ((hS.blk 0 rfl hg_3).cell rfl) K.cl0)))))) ?_
 refine K.l (K.OW.gcall hS [] [0, 1] [.agg #[.int .i64 c.th, .int .i64 c.sl, .int .i64 c.lo, .int .i64 c.bu]] (few09_ok _ c) ?_)
 clear hS; rintro _ _ w ⟨rfl, (⟨rfl, h_4⟩ | ⟨rfl, h_5⟩)⟩ hS
 ·
  replace hS : K.Sat w0 [g_2, fr] w := hS
  have hc_6 := h_4.1
  obtain ⟨hf_7, hf_8, hf_9, hf_10, hf_11⟩ := (show _ from (by have h := h_4; unfold fewC cfgOk at h; exact h))
  refine K.q [.bool false, .bool false, .int .i64 t] ?_
  by_cases h_12 : (t : Int) < (0 : Int)
  ·
   refine K.y ((t : Int) < (0 : Int)) h_12 ?_
   refine K.q [.bool true, .bool true] (K.n_ (K.n_ (K.n_ (K.n_ (K.q [.bool true, .bool true] (K.n_ (K.n_ (K.n_ (K.q [.bool true] (K.z (K.t (K.h (K.s (K.g ?_))))))))))))))
   refine K.l (K.OW.gcall hS [] [0, 1] [] (awake11_ok _) ?_)
   clear hS; rintro _ _ w ⟨rfl, rfl⟩ hS
   replace hS : K.Sat w0 [g_2, fr] w := hS
   refine K.q [.bool true] (K.z (K.t (K.r (K.u ?_))))
   refine ⟨.inr rfl, rfl, (.bool true), K.res1 rfl rfl, [], ?_, hS.pick [1]⟩
   exact rfl
  ·
   refine K.x ((t : Int) < (0 : Int)) h_12 ?_
   refine K.q [.bool false, .bool false, .int .i64 t, .pointer (some ⟨r_1, 0, none⟩)] ?_
   refine K.d (.int .i64 c.th) ((hS.blk 0 rfl hg_3).cell rfl) ?_
   by_cases h_13 : (t : Int) ≥ (c.th : Int)
   ·
    refine K.y ((t : Int) ≥ (c.th : Int)) h_13 ?_
    refine K.q [.bool true, .bool true] (K.n_ (K.n_ (K.n_ (K.q [.bool true] (K.z (K.t (K.h (K.s (K.g ?_)))))))))
    refine K.l (K.OW.gcall hS [] [0, 1] [] (awake11_ok _) ?_)
    clear hS; rintro _ _ w ⟨rfl, rfl⟩ hS
    replace hS : K.Sat w0 [g_2, fr] w := hS
    refine K.q [.bool true] (K.z (K.t (K.r (K.u ?_))))
    refine ⟨.inr rfl, rfl, (.bool true), K.res1 rfl rfl, [], ?_, hS.pick [1]⟩
    exact rfl
   ·
    refine K.x ((t : Int) ≥ (c.th : Int)) h_13 ?_
    refine K.q [.bool false, .bool false, .slice a xs.length cap] ?_
    refine K.a (K.QR.len (P := Try.prog) rfl rfl Try.underlying53) ?_
    by_cases h_14 : (((xs.length : Nat) : Int) : Int) > (60 : Int)
    ·
     refine K.y ((((xs.length : Nat) : Int) : Int) > (60 : Int)) h_14 ?_
     refine K.q [.bool true] (K.z (K.t (K.h (K.s (K.g ?_)))))
     refine K.l (K.OW.gcall hS [] [0, 1] [] (awake11_ok _) ?_)
     clear hS; rintro _ _ w ⟨rfl, rfl⟩ hS
     replace hS : K.Sat w0 [g_2, fr] w := hS
     refine K.q [.bool true] (K.z (K.t (K.r (K.u ?_))))
     refine ⟨.inr rfl, rfl, (.bool true), K.res1 rfl rfl, [], ?_, hS.pick [1]⟩
     exact rfl
    ·
     refine K.x ((((xs.length : Nat) : Int) : Int) > (60 : Int)) h_14 ?_
     refine K.q [.bool false] (K.z (K.t (K.f (K.k (K.t (K.s (K.g ?_)))))))
     refine K.a (K.QR.ldN [.int .i64 c.th, .int .i64 c.sl, .int .i64 c.lo, .int .i64 c.bu] rfl rfl (by kernel_rfl) (by kernel_rfl) (K.cells (K.cl ((hS.blk 0 rfl hg_3).cell rfl) (K.cl ((hS.blk 0 rfl hg_3).cell rfl) (K.cl ((hS.blk 0 rfl hg_3).cell rfl) (K.cl ((hS.blk 0 rfl hg_3).cell rfl) K.cl0)))))) ?_
     refine K.a (K.QR.bd [(0, .agg #[.int .i64 c.th, .int .i64 c.sl, .int .i64 c.lo, .int .i64 c.bu])] [.int .i64 c.th, .int .i64 c.sl, .int .i64 c.lo, .int .i64 c.bu, .slice none 0 0] rfl rfl (by kernel_rfl)) ?_
     refine K.l (K.OW.gcall hS [52] [0, 1] [.agg #[.int .i64 c.th, .int .i64 c.sl, .int .i64 c.lo, .int .i64 c.bu, .slice none 0 0]] (layS_ok _ c _ _ [] (fun j hj => absurd hj (by simp)) (⟨by assumption, by decide⟩) _ (fun _ _ => K.RowE.zero _ _ _ _)) ?_)
     clear hS; rintro _ _ w ⟨b_15, p_16, q_17, r_18, u_19, _, _, gl_20, l_21, m_22, rfl, rfl, hl_23, x_24, y_25, rfl, rfl, hf_26, hp_27⟩ hS
     replace hS : K.Sat w0 [gl_20, l_21, m_22, g_2, fr] w := hS.of (by simp [K.pick, K.nth])
     have hL0 : LogM c t (List.replicate c.lo.toNat 0) (groundM ((lns c).toNat) (c.th.toNat) (2 + c.th + c.sl).toNat []) := log_start (by assumption) (by omega)
     have hM0 := hL0.good
     generalize groundM ((lns c).toNat) (c.th.toNat) (2 + c.th + c.sl).toNat [] = M0 at x_24 hL0 hM0
     refine K.q [.tuple #[.pointer (some ⟨b_15, 0, none⟩), .pointer (some ⟨p_16, 0, none⟩), .pointer (some ⟨r_18, 0, none⟩), .bool true], .pointer (some ⟨b_15, 0, none⟩), .pointer (some ⟨p_16, 0, none⟩), .pointer (some ⟨r_18, 0, none⟩), .bool true, .pointer (some ⟨b_15, 0, none⟩), .pointer (some ⟨p_16, 0, none⟩), .pointer (some ⟨r_18, 0, none⟩), .bool true] (K.z (K.t (K.s (K.g (K.q [.pointer (some ⟨r_1, 2, none⟩)] ?_)))))
     refine K.a (K.QR.turn (v := .int .i64 c.lo) (K.QR.ld1 (v := .int .i64 c.lo) rfl rfl (by kernel_rfl) ((hS.blk 3 rfl hg_3).cell rfl)) (congrArg (Value.int .i64) (show (c.lo : Int) = (((c.lo.toNat : Nat) : Int) : Int) from by omega))) ?_
     refine K.l (K.OW.gmk (P := Try.prog) (m := c.lo.toNat) (cc := cI64) (z := .int .i64 0) (size := 1) (bytes := 8) (0 : Int) hS ?_ Try.underlying57 (by kernel_rfl) rfl rfl (by unfold maxLen; omega) (by omega))
     clear hS; intro w r_28 l_29 o_30 hS
     refine K.q [.slice (some ⟨r_28, 0, none⟩) c.lo.toNat c.lo.toNat] (K.z (K.t (K.s (K.s (K.g (K.q [.int .i64 0] (K.z (K.t ?_))))))))
     refine K.KW.block ?_
     refine K.KW.loop (fun m_ F_ w_ => ∃ (j : Nat) (L : List Int) (M : MemM) (o1 : K.Cs) (l1 : K.Cs), m_ = xs.length - j ∧ K.Sl F_ [(0, .agg #[.int .i64 c.th, .int .i64 c.sl, .int .i64 c.lo, .int .i64 c.bu]), (1, .int .i64 t), (2, .slice a xs.length cap), (3, .pointer (some ⟨r_1, 0, none⟩)), (7, .pointer (some ⟨b_15, 0, none⟩)), (8, .pointer (some ⟨p_16, 0, none⟩)), (10, .bool true), (11, .slice (some ⟨r_28, 0, none⟩) c.lo.toNat c.lo.toNat), (12, .int .i64 ((j : Nat) : Int)), (176, undef)] ∧ j ≤ xs.length ∧ LogM c t L M ∧ L.length = c.lo.toNat ∧ K.OwnG o1 3 1 (some ⟨r_28, 0, none⟩) c.lo.toNat c.lo.toNat ((L).flatMap cI64) ∧ MemAt l1 p_16 q_17 ((lns c).toNat) (c.th.toNat) M ∧ K.Sat w0 [o1, gl_20, l1, m_22, g_2, fr] w_) ((fun (j : Nat) (L : List Int) (M : MemM) => xs.length - j) 0 (List.replicate c.lo.toNat (0 : Int)) M0) ?_ ?_
     ·
      exact ⟨0, (List.replicate c.lo.toNat (0 : Int)), M0, l_29, l_21, rfl, ⟨by rfl, by rfl, by rfl, by rfl, by rfl, by rfl, by rfl, by rfl, by rfl, by rfl, trivial⟩, (by omega), (hL0), (by simp), o_30, x_24, hS.pick [0, 1, 2, 3, 4, 5]⟩
     ·
      clear hS
      intro m_31 F_32 w hI
      obtain ⟨j, L, M, o1, l1, rfl, sl_33, p_34, hL, hLl, x_35, x_36, hS⟩ := hI
      rw [← K.Sl.puts sl_33]; clear sl_33
      have hMg := hL.good
      refine K.s (K.s (K.g (K.q [.int .i64 ((j : Nat) : Int), .slice a xs.length cap] ?_)))
      refine K.a (K.QR.len (P := Try.prog) rfl rfl Try.underlying53) ?_
      by_cases h_37 : (((j : Nat) : Int) : Int) < (((xs.length : Nat) : Int) : Int)
      ·
       refine K.y ((((j : Nat) : Int) : Int) < (((xs.length : Nat) : Int) : Int)) h_37 ?_
       refine K.z (K.t (K.h (K.k (K.t (K.s ?_)))))
       refine K.KW.block ?_
       refine K.s ?_
       have hx8j := hx8 j (by omega)
       have hrl : 0 ≤ (((xs.getD j 0 : Int) % 128)) % ((c.lo : Int)) ∧ (((xs.getD j 0 : Int) % 128)) % ((c.lo : Int)) < (c.lo : Int) := ⟨Int.emod_nonneg _ (by omega), Int.emod_lt_of_pos _ (by omega)⟩
       obtain ⟨tn, htn⟩ : ∃ q : Nat, ((((xs.getD j 0 : Int) % 128)) % ((c.lo : Int)) : Int) = q := ⟨((((xs.getD j 0 : Int) % 128)) % ((c.lo : Int)) : Int).toNat, by omega⟩
       obtain ⟨b_38, of_39, rfl, _⟩ := hx.at_ (by omega)
       refine K.KW.gdrawn [] hS (by kernel_rfl) ?_
       clear hS; intro w hS
       refine K.p 0 rfl (.slice (some ⟨b_38, of_39, none⟩) xs.length cap) (hS.pick []) ?_
       refine K.p 1 rfl (.int .i64 ((j : Nat) : Int)) (hS.pick []) ?_
       refine K.m 2 rfl (fun w hS => K.QR.ix (of_39 + j * 1) 1 rfl rfl rfl Try.underlying53 (by kernel_rfl) (by omega) (by first | (simp; done) | omega | (simp; omega))) (hS.pick []) ?_
       refine K.o_ 3 rfl (.int .u8 (xs.getD j 0)) (fun w hS => ((hx.no hS.chg).ld j (by omega) 0 _ rfl)) (hS.pick []) ?_
       refine K.m 4 rfl (fun w hS => K.QR.remany (k := .u8) (xs.getD j 0 : Int) 128 ((xs.getD j 0 : Int) % 128) (by kernel_rfl) (by omega) (by omega)) (hS.pick []) ?_
       refine K.m 5 rfl (fun w hS => K.QR.nice (v := .int .i64 (IntKind.i64.wrap ((xs.getD j 0 : Int) % 128))) (by kernel_rfl) (congrArg (Value.int .i64) (IntWalk.i64_in _ (by omega)))) (hS.pick []) ?_
       refine K.b 6 rfl (.pointer (some ⟨r_1, 2, none⟩)) (hS.pick []) ?_
       refine K.c 7 rfl (K.QR.ld1 (v := .int .i64 c.lo) rfl rfl (by kernel_rfl) ((hS.blk 4 rfl hg_3).cell rfl)) (hS.pick []) ?_
       refine K.c 8 rfl (K.QR.remV rfl rfl rfl (by omega) (by omega) htn) (hS.pick []) ?_
       refine K.b 9 rfl (.int .i64 ((tn : Nat) : Int)) (hS.pick []) ?_
       refine K.DW.done (by kernel_rfl) ?_
       refine K.t (K.s ?_)
       have hrl : 0 ≤ (((xs.getD j 0 : Int) % 128)) % ((c.sl : Int)) ∧ (((xs.getD j 0 : Int) % 128)) % ((c.sl : Int)) < (c.sl : Int) := ⟨Int.emod_nonneg _ (by omega), Int.emod_lt_of_pos _ (by omega)⟩
       obtain ⟨ts, hts⟩ : ∃ q : Nat, ((((xs.getD j 0 : Int) % 128)) % ((c.sl : Int)) : Int) = q := ⟨((((xs.getD j 0 : Int) % 128)) % ((c.sl : Int)) : Int).toNat, by omega⟩
       refine K.KW.gdrawn [] hS (by kernel_rfl) ?_
       clear hS; intro w hS
       refine K.p 0 rfl (.slice (some ⟨b_38, of_39, none⟩) xs.length cap) (hS.pick []) ?_
       refine K.p 1 rfl (.int .i64 ((j : Nat) : Int)) (hS.pick []) ?_
       refine K.m 2 rfl (fun w hS => K.QR.ix (of_39 + j * 1) 1 rfl rfl rfl Try.underlying53 (by kernel_rfl) (by omega) (by first | (simp; done) | omega | (simp; omega))) (hS.pick []) ?_
       refine K.o_ 3 rfl (.int .u8 (xs.getD j 0)) (fun w hS => ((hx.no hS.chg).ld j (by omega) 0 _ rfl)) (hS.pick []) ?_
       refine K.m 4 rfl (fun w hS => K.QR.remany (k := .u8) (xs.getD j 0 : Int) 128 ((xs.getD j 0 : Int) % 128) (by kernel_rfl) (by omega) (by omega)) (hS.pick []) ?_
       refine K.m 5 rfl (fun w hS => K.QR.nice (v := .int .i64 (IntKind.i64.wrap ((xs.getD j 0 : Int) % 128))) (by kernel_rfl) (congrArg (Value.int .i64) (IntWalk.i64_in _ (by omega)))) (hS.pick []) ?_
       refine K.b 6 rfl (.pointer (some ⟨r_1, 1, none⟩)) (hS.pick []) ?_
       refine K.c 7 rfl (K.QR.ld1 (v := .int .i64 c.sl) rfl rfl (by kernel_rfl) ((hS.blk 4 rfl hg_3).cell rfl)) (hS.pick []) ?_
       refine K.c 8 rfl (K.QR.remV rfl rfl rfl (by omega) (by omega) hts) (hS.pick []) ?_
       refine K.b 9 rfl (.int .i64 ((ts : Nat) : Int)) (hS.pick []) ?_
       refine K.DW.done (by kernel_rfl) ?_
       refine K.t ?_
       refine K.KW.cut (fun F_ w_ => ∃ (L2 : List Int) (M2 : MemM) (o2 : K.Cs) (l3 : K.Cs), K.Sl F_ [(0, .agg #[.int .i64 c.th, .int .i64 c.sl, .int .i64 c.lo, .int .i64 c.bu]), (1, .int .i64 t), (2, .slice (some ⟨b_38, of_39, none⟩) xs.length cap), (3, .pointer (some ⟨r_1, 0, none⟩)), (7, .pointer (some ⟨b_15, 0, none⟩)), (8, .pointer (some ⟨p_16, 0, none⟩)), (10, .bool true), (11, .slice (some ⟨r_28, 0, none⟩) c.lo.toNat c.lo.toNat), (12, .int .i64 ((j : Nat) : Int)), (176, undef)] ∧ LogM c t L2 M2 ∧ L2.length = c.lo.toNat ∧ K.OwnG o2 3 1 (some ⟨r_28, 0, none⟩) c.lo.toNat c.lo.toNat ((L2).flatMap cI64) ∧ MemAt l3 p_16 q_17 ((lns c).toNat) (c.th.toNat) M2 ∧ K.Sat w0 [o2, gl_20, l3, m_22, g_2, fr] w_) ?_ ?_
       ·
        refine K.s (K.g (K.q [.slice (some ⟨b_38, of_39, none⟩) xs.length cap, .int .i64 ((j : Nat) : Int)] ?_))
        refine K.a (K.QR.ix (of_39 + j * 1) 1 rfl rfl rfl Try.underlying53 (by kernel_rfl) (by omega) (by first | (simp; done) | omega | (simp; omega))) ?_
        refine K.d (.int .u8 (xs.getD j 0)) ((hx.no hS.chg).ld j (by omega) 0 _ rfl) ?_
        by_cases h_40 : (xs.getD j 0 : Int) ≥ (128 : Int)
        ·
         refine K.y ((xs.getD j 0 : Int) ≥ (128 : Int)) h_40 ?_
         refine K.z (K.t (K.h (K.s (K.g (K.q [.pointer (some ⟨b_15, 0, none⟩), .int .i64 t, .int .i64 ((tn : Nat) : Int)] ?_)))))
         refine K.l (K.OW.gcall hS [] [0, 1, 2, 3, 4, 5] [.pointer (some ⟨b_15, 0, none⟩), .int .i64 t, .int .i64 ((tn : Nat) : Int)] (newcan_ok _ b_15 t ((tn : Nat) : Int)) ?_)
         clear hS; rintro _ _ w ⟨p_41, g_42, rfl, rfl, h_43⟩ hS
         replace hS : K.Sat w0 [g_42, o1, gl_20, l1, m_22, g_2, fr] w := hS
         have hS_44 : CanS.good ⟨t, 0, ((tn : Nat) : Int)⟩ := canInit (by omega) (by omega)
         refine K.q [.pointer (some ⟨p_41, 0, none⟩)] (K.z (K.t (K.s (K.g (K.q [.pointer (some ⟨p_41, 0, none⟩), .pointer (some ⟨p_16, 0, none⟩)] ?_)))))
         refine K.l (K.OW.gcall hS [0, 2, 3] [1, 4, 5, 6] [.pointer (some ⟨p_41, 0, none⟩), .pointer (some ⟨p_16, 0, none⟩)] (canStep_ok _ _ _ _ _ _ _ c (by first | assumption | (unfold cfgOk; decide)) (⟨t, 0, ((tn : Nat) : Int)⟩ : CanS) M _ _ _ h_43 hl_23 x_36 (by assumption) (by assumption)) ?_)
         clear hS; rintro _ _ w ⟨g_45, l_46, rfl, rfl, h_47, x_48⟩ hS
         replace hS : K.Sat w0 [g_45, gl_20, l_46, o1, m_22, g_2, fr] w := hS
         obtain ⟨hS_49, hM_50⟩ := (canStep_good (by assumption) (by assumption) : (canStep c ((lns c).toNat) (⟨t, 0, ((tn : Nat) : Int)⟩ : CanS) M).1.good ∧ (canStep c ((lns c).toNat) (⟨t, 0, ((tn : Nat) : Int)⟩ : CanS) M).2.good)
         refine K.z (K.t (K.g (K.q [.slice (some ⟨r_28, 0, none⟩) c.lo.toNat c.lo.toNat, .int .i64 ((tn : Nat) : Int)] ?_)))
         refine K.a (K.QR.ix tn 1 rfl rfl rfl Try.underlying57 (by kernel_rfl) (by omega) (by first | (simp; done) | omega | (simp; omega))) ?_
         refine K.l (K.OW.grst 3 tn [.int .i64 0] (((L.set tn 0)).flatMap cI64) hS x_35 ?_ (by show _ + 1 ≤ _; omega) (K.set1 (c := cI64) L tn 0 (by have := hLl; omega)))
         clear hS; intro w l_51 o_52 hS
         have ln_53 : ((L.set tn 0)).length = _ := (List.length_set).trans hLl
         replace hS : K.Sat w0 [g_45, gl_20, l_46, l_51, m_22, g_2, fr] w := hS
         refine K.z (K.t ?_)
         exact ⟨(L.set tn 0), ((canStep c ((lns c).toNat) (⟨t, 0, ((tn : Nat) : Int)⟩ : CanS) M).2), l_51, l_46, ⟨by rfl, by rfl, by rfl, by rfl, by rfl, by rfl, by rfl, by rfl, by rfl, by rfl, trivial⟩, (canLog (by assumption) (by omega) (by omega) hL), (by simpa using hLl), o_52, x_48, hS.pick [3, 1, 2, 4, 5, 6]⟩
        ·
         refine K.x ((xs.getD j 0 : Int) ≥ (128 : Int)) h_40 ?_
         refine K.z (K.t (K.f (K.s (K.g (K.q [.int .i64 (-1)] (K.z (K.t (K.s (K.s (K.g (K.q [.pointer (some ⟨r_1, 2, none⟩)] ?_)))))))))))
         refine K.d (.int .i64 c.lo) ((hS.blk 4 rfl hg_3).cell rfl) ?_
         refine K.a (K.QR.n64 ((c.lo : Int) - (1 : Int)) ((c.lo : Int) - (1 : Int)) (by kernel_rfl) (by omega)) ?_
         refine K.q [.int .i64 ((c.lo : Int) - (1 : Int))] (K.z (K.t ?_))
         refine K.KW.block ?_
         refine K.KW.loop (fun m_ F_ w_ => ∃ (kk : Nat) (want : Int), m_ = kk + 1 ∧ K.Sl F_ [(0, .agg #[.int .i64 c.th, .int .i64 c.sl, .int .i64 c.lo, .int .i64 c.bu]), (1, .int .i64 t), (2, .slice (some ⟨b_38, of_39, none⟩) xs.length cap), (3, .pointer (some ⟨r_1, 0, none⟩)), (7, .pointer (some ⟨b_15, 0, none⟩)), (8, .pointer (some ⟨p_16, 0, none⟩)), (10, .bool true), (11, .slice (some ⟨r_28, 0, none⟩) c.lo.toNat c.lo.toNat), (12, .int .i64 ((j : Nat) : Int)), (14, .int .i64 ((ts : Nat) : Int)), (16, .int .i64 want), (17, .int .i64 ((kk : Int) - 1)), (176, undef)] ∧ kk ≤ c.lo.toNat ∧ FZ L c.lo kk want ∧ K.Sat w0 [o1, gl_20, l1, m_22, g_2, fr] w_) ((fun (kk : Nat) (want : Int) => kk + 1) c.lo.toNat (-1)) ?_ ?_
         ·
          exact ⟨c.lo.toNat, -1, rfl, ⟨by rfl, by rfl, by rfl, by rfl, by rfl, by rfl, by rfl, by rfl, by rfl, by rfl, by rfl, congrArg (Value.int .i64) (show (c.lo - 1 : Int) = ((c.lo.toNat : Nat) : Int) - 1 by omega), by rfl, trivial⟩, (by omega), (FZ.start (by omega)), hS.pick [0, 1, 2, 3, 4, 5]⟩
         ·
          clear hS
          intro m_54 F_55 w hI
          obtain ⟨kk, want, rfl, sl_56, p_57, hz, hS⟩ := hI
          rw [← K.Sl.puts sl_56]; clear sl_56
          refine K.s (K.s (K.g (K.q [.int .i64 ((kk : Int) - 1)] ?_)))
          by_cases h_58 : (((kk : Int) - 1) : Int) ≥ (0 : Int)
          ·
           refine K.y ((((kk : Int) - 1) : Int) ≥ (0 : Int)) h_58 ?_
           refine K.z (K.t (K.h (K.k (K.t (K.s ?_)))))
           refine K.KW.block ?_
           refine K.s (K.g (K.q [.slice (some ⟨r_28, 0, none⟩) c.lo.toNat c.lo.toNat] ?_))
           refine K.a (K.QR.turn (v := .int .i64 ((kk : Int) - 1)) (K.QR.k (v := .int .i64 ((kk : Int) - 1)) (by kernel_rfl)) (congrArg (Value.int .i64) (show (((kk : Int) - 1) : Int) = (((kk - 1 : Nat) : Int) : Int) from by omega))) ?_
           refine K.a (K.QR.ix (kk - 1) 1 rfl rfl rfl Try.underlying57 (by kernel_rfl) (by omega) (by first | (simp; done) | omega | (simp; omega))) ?_
           refine K.d (.int .i64 (L.getD (kk - 1) 0)) (K.Own.atS (c := cI64) (d := 0) (fun _ => rfl) (hS.ownr 0 rfl x_35) hLl (kk - 1) (by omega)) ?_
           by_cases h_59 : (L.getD (kk - 1) 0 : Int) = (0 : Int)
           ·
            refine K.ye (L.getD (kk - 1) 0 : Int) (0 : Int) h_59 ?_
            refine K.z (K.t (K.h (K.g (K.q [.int .i64 ((kk : Int) - 1), .int .i64 ((kk : Int) - 1)] (K.z ?_)))))
            refine K.blk_normal ?_
            refine K.t (K.g (K.q [.int .i64 ((kk : Int) - 1)] ?_))
            refine K.a (K.QR.n64 ((((kk : Int) - 1) : Int) - (1 : Int)) ((((kk : Int) - 1) : Int) - (1 : Int)) (by kernel_rfl) (by omega)) ?_
            refine K.q [.int .i64 ((((kk : Int) - 1) : Int) - (1 : Int))] (K.z (K.t ?_))
            refine ⟨_, ?_, (kk - 1), ((kk : Int) - 1), rfl, ⟨by rfl, by rfl, by rfl, by rfl, by rfl, by rfl, by rfl, by rfl, by rfl, by rfl, by rfl, congrArg (Value.int .i64) (show ((kk : Int) - 1 - 1 : Int) = ((kk - 1 : Nat) : Int) - 1 by omega), by rfl, trivial⟩, (by omega), (by have h := FZ.take (L := L) (lo := c.lo) (k := kk - 1) (by omega) (by omega); rwa [show ((kk - 1 : Nat) : Int) = (kk : Int) - 1 by omega] at h), hS.pick [0, 1, 2, 3, 4, 5]⟩
            omega
           ·
            refine K.xe (L.getD (kk - 1) 0 : Int) (0 : Int) h_59 ?_
            refine K.z (K.t (K.f (K.k ?_)))
            refine K.blk_normal ?_
            refine K.t (K.g (K.q [.int .i64 ((kk : Int) - 1)] ?_))
            refine K.a (K.QR.n64 ((((kk : Int) - 1) : Int) - (1 : Int)) ((((kk : Int) - 1) : Int) - (1 : Int)) (by kernel_rfl) (by omega)) ?_
            refine K.q [.int .i64 ((((kk : Int) - 1) : Int) - (1 : Int))] (K.z (K.t ?_))
            refine ⟨_, ?_, (kk - 1), want, rfl, ⟨by rfl, by rfl, by rfl, by rfl, by rfl, by rfl, by rfl, by rfl, by rfl, by rfl, by rfl, congrArg (Value.int .i64) (show ((kk : Int) - 1 - 1 : Int) = ((kk - 1 : Nat) : Int) - 1 by omega), by rfl, trivial⟩, (by omega), (FZ.keep (by omega) (by rw [show kk - 1 + 1 = kk by omega]; exact hz)), hS.pick [0, 1, 2, 3, 4, 5]⟩
            omega
          ·
           refine K.x ((((kk : Int) - 1) : Int) ≥ (0 : Int)) h_58 ?_
           refine K.z (K.t (K.f ?_))
           refine K.KW.exit ?_
           refine K.thn_exit ?_
           refine K.thn_exit ?_
           refine K.blk_hit ?_
           refine K.t (K.s ?_)
           have hz0 : FZ L c.lo 0 want := by
            have e : kk = 0 := by omega
            rw [e] at hz; exact hz
           have hwr := hz0.rng
           refine K.g (K.q [.pointer (some ⟨b_15, 0, none⟩), .int .i64 t, .int .i64 ((ts : Nat) : Int)] ?_)
           refine K.l (K.OW.gcall hS [] [0, 1, 2, 3, 4, 5] [.pointer (some ⟨b_15, 0, none⟩), .int .i64 t, .int .i64 ((ts : Nat) : Int)] (newre_ok _ b_15 t ((ts : Nat) : Int)) ?_)
           clear hS; rintro _ _ w ⟨p_60, g_61, rfl, rfl, h_62⟩ hS
           replace hS : K.Sat w0 [g_61, o1, gl_20, l1, m_22, g_2, fr] w := hS
           have hS_63 : ResS.good ⟨t, 0, ((ts : Nat) : Int), 0, 0⟩ := resInit (by omega) (by omega)
           refine K.q [.pointer (some ⟨p_60, 0, none⟩)] (K.z (K.t (K.s (K.s (K.g (K.q [.int .i64 0] (K.z (K.t ?_))))))))
           refine K.KW.block ?_
           refine K.KW.loop (fun m_ F_ w_ => ∃ (i : Nat) (S : ResS) (M1 : MemM) (g1 : K.Cs) (l2 : K.Cs), m_ = (c.lo.toNat + 4) - i ∧ K.Sl F_ [(0, .agg #[.int .i64 c.th, .int .i64 c.sl, .int .i64 c.lo, .int .i64 c.bu]), (1, .int .i64 t), (2, .slice (some ⟨b_38, of_39, none⟩) xs.length cap), (3, .pointer (some ⟨r_1, 0, none⟩)), (7, .pointer (some ⟨b_15, 0, none⟩)), (8, .pointer (some ⟨p_16, 0, none⟩)), (10, .bool true), (11, .slice (some ⟨r_28, 0, none⟩) c.lo.toNat c.lo.toNat), (12, .int .i64 ((j : Nat) : Int)), (14, .int .i64 ((ts : Nat) : Int)), (16, .int .i64 want), (18, .pointer (some ⟨p_60, 0, none⟩)), (19, .int .i64 ((i : Nat) : Int)), (176, undef)] ∧ i ≤ c.lo.toNat + 4 ∧ RInv c t (ts : Int) L want i S M1 ∧ g1 = [K.pt p_60 158 [.pointer (some ⟨b_15, 0, none⟩), .int .i64 S.t, .int .i64 S.pc, .int .i64 S.slot, .int .i64 S.next, .int .i64 S.place]] ∧ MemAt l2 p_16 q_17 ((lns c).toNat) (c.th.toNat) M1 ∧ K.Sat w0 [g1, o1, gl_20, l2, m_22, g_2, fr] w_) ((fun (i : Nat) (S : ResS) (M1 : MemM) => (c.lo.toNat + 4) - i) 0 ⟨t, 0, (ts : Int), 0, 0⟩ M) ?_ ?_
           ·
            exact ⟨0, ⟨t, 0, (ts : Int), 0, 0⟩, M, g_61, l1, rfl, ⟨by rfl, by rfl, by rfl, by rfl, by rfl, by rfl, by rfl, by rfl, by rfl, by rfl, by rfl, by rfl, by rfl, by rfl, trivial⟩, (by omega), (RInv.start (by assumption) (by omega) (by omega) hL), h_62, x_36, hS.pick [0, 1, 2, 3, 4, 5, 6]⟩
           ·
            clear hS
            intro m_64 F_65 w hI
            obtain ⟨i, S, M1, g1, l2, rfl, sl_66, p_67, hR, x_68, x_69, hS⟩ := hI
            rw [← K.Sl.puts sl_66]; clear sl_66
            have hSg := hR.good; have hMg1 := hR.mg
            refine K.s (K.s (K.g (K.q [.int .i64 ((i : Nat) : Int), .pointer (some ⟨r_1, 2, none⟩)] ?_)))
            refine K.d (.int .i64 c.lo) ((hS.blk 5 rfl hg_3).cell rfl) ?_
            refine K.a (K.QR.n64 ((c.lo : Int) + (4 : Int)) ((c.lo : Int) + (4 : Int)) (by kernel_rfl) (by omega)) ?_
            by_cases h_70 : (((i : Nat) : Int) : Int) < ((c.lo : Int) + (4 : Int) : Int)
            ·
             refine K.y ((((i : Nat) : Int) : Int) < ((c.lo : Int) + (4 : Int) : Int)) h_70 ?_
             refine K.z (K.t (K.h (K.k (K.t (K.s ?_)))))
             refine K.KW.block ?_
             refine K.g (K.q [.pointer (some ⟨p_60, 0, none⟩), .pointer (some ⟨p_16, 0, none⟩)] ?_)
             refine K.l (K.OW.gcall hS [0, 2, 3] [1, 4, 5, 6] [.pointer (some ⟨p_60, 0, none⟩), .pointer (some ⟨p_16, 0, none⟩)] (reStep_ok _ _ _ _ _ _ _ c (by first | assumption | (unfold cfgOk; decide)) S M1 _ _ _ x_68 hl_23 x_69 (by assumption) (by assumption)) ?_)
             clear hS; rintro _ _ w ⟨g_71, l_72, rfl, rfl, h_73, x_74⟩ hS
             replace hS : K.Sat w0 [g_71, gl_20, l_72, o1, m_22, g_2, fr] w := hS
             obtain ⟨hS_75, hM_76⟩ := (resStep_good (by first | assumption | (unfold cfgOk; decide)) (by assumption) (by assumption) : (resStep c ((lns c).toNat) (c.th.toNat) S M1).1.good ∧ (resStep c ((lns c).toNat) (c.th.toNat) S M1).2.good)
             refine K.z ?_
             refine K.blk_normal ?_
             refine K.t (K.g (K.q [.int .i64 ((i : Nat) : Int)] ?_))
             refine K.a (K.QR.n64 ((((i : Nat) : Int) : Int) + (1 : Int)) ((i + 1 : Nat) : Int) (by kernel_rfl) (by omega)) ?_
             refine K.q [.int .i64 ((i + 1 : Nat) : Int)] (K.z (K.t ?_))
             refine ⟨_, ?_, i + 1, (resStep c ((lns c).toNat) (c.th.toNat) S M1).1, ((resStep c ((lns c).toNat) (c.th.toNat) S M1).2), g_71, l_72, rfl, ⟨by rfl, by rfl, by rfl, by rfl, by rfl, by rfl, by rfl, by rfl, by rfl, by rfl, by rfl, by rfl, by rfl, by rfl, trivial⟩, (by omega), (hR.next (by assumption) (by omega) (by omega) (by omega) hz0), h_73, x_74, hS.pick [0, 3, 1, 2, 4, 5, 6]⟩
             omega
            ·
             refine K.x ((((i : Nat) : Int) : Int) < ((c.lo : Int) + (4 : Int) : Int)) h_70 ?_
             refine K.z (K.t (K.f ?_))
             refine K.KW.exit ?_
             refine K.thn_exit ?_
             refine K.thn_exit ?_
             refine K.blk_hit ?_
             refine K.t (K.s (K.s ?_))
             have hfin := hR.end_ (by omega)
             refine K.g (K.q [.pointer (some ⟨p_60, 0, none⟩)] ?_)
             refine K.l (K.OW.gcall hS [0] [1, 2, 3, 4, 5, 6] [.pointer (some ⟨p_60, 0, none⟩)] (reDoneB_ok _ _ _ S _ x_68) ?_)
             clear hS; rintro _ _ w ⟨rfl, rfl⟩ hS
             replace hS : K.Sat w0 [g1, o1, gl_20, l2, m_22, g_2, fr] w := hS
             cases hb_77 : S.done
             ·cases (hb_77.symm.trans (show S.done = true from hfin.1))
             ·
              refine K.q [.bool false, .bool false, .pointer (some ⟨p_60, 0, none⟩)] ?_
              refine K.l (K.OW.gcall hS [0, 2] [1, 3, 4, 5, 6] [.pointer (some ⟨p_60, 0, none⟩)] (rePlace_ok _ _ _ c (by first | assumption | (unfold cfgOk; decide)) S _ _ x_68 hl_23) ?_)
              clear hS; rintro _ _ w ⟨rfl, rfl⟩ hS
              replace hS : K.Sat w0 [g1, gl_20, o1, l2, m_22, g_2, fr] w := hS
              refine K.q [.int .i64 want] ?_
              refine K.xn ((rePlace c S) : Int) (want : Int) (hfin.2.1) ?_
              refine K.q [.bool false] (K.z (K.t (K.f (K.k (K.t (K.s (K.g (K.q [.int .i64 want] ?_))))))))
              by_cases h_78 : (want : Int) ≥ (0 : Int)
              ·
               refine K.y ((want : Int) ≥ (0 : Int)) h_78 ?_
               refine K.z (K.t (K.h (K.g (K.q [.slice (some ⟨r_28, 0, none⟩) c.lo.toNat c.lo.toNat, .int .i64 want, .int .i64 ((ts : Nat) : Int)] ?_))))
               refine K.a (K.QR.n64 ((((ts : Nat) : Int) : Int) + (1 : Int)) ((ts + 1 : Nat) : Int) (by kernel_rfl) (by omega)) ?_
               refine K.a (K.QR.ix want.toNat 1 rfl rfl rfl Try.underlying57 (by kernel_rfl) (by omega) (by first | (simp; done) | omega | (simp; omega))) ?_
               refine K.l (K.OW.grst 2 want.toNat [.int .i64 ((ts + 1 : Nat) : Int)] (((L.set want.toNat ((ts + 1 : Nat) : Int))).flatMap cI64) hS x_35 ?_ (by show _ + 1 ≤ _; omega) (K.set1 (c := cI64) L want.toNat ((ts + 1 : Nat) : Int) (by have := hLl; omega)))
               clear hS; intro w l_79 o_80 hS
               have ln_81 : ((L.set want.toNat ((ts + 1 : Nat) : Int))).length = _ := (List.length_set).trans hLl
               replace hS : K.Sat w0 [g1, gl_20, l_79, l2, m_22, g_2, fr] w := hS
               refine K.z (K.t ?_)
               exact ⟨(L.set want.toNat ((ts + 1 : Nat) : Int)), M1, l_79, l2, ⟨by rfl, by rfl, by rfl, by rfl, by rfl, by rfl, by rfl, by rfl, by rfl, by rfl, trivial⟩, ((hfin.2.2.resolve_left (fun h => absurd h.1 (by omega))).2.2), (by simpa using hLl), o_80, x_69, hS.pick [2, 1, 3, 4, 5, 6]⟩
              ·
               refine K.x ((want : Int) ≥ (0 : Int)) h_78 ?_
               refine K.z (K.t (K.f (K.k (K.t ?_))))
               exact ⟨L, M1, o1, l2, ⟨by rfl, by rfl, by rfl, by rfl, by rfl, by rfl, by rfl, by rfl, by rfl, by rfl, trivial⟩, ((hfin.2.2.resolve_right (fun h => absurd h.1 (by omega))).2), (by simpa using hLl), x_35, x_69, hS.pick [2, 1, 3, 4, 5, 6]⟩
       ·
        clear hS
        intro F_82 w hI
        obtain ⟨L2, M2, o2, l3, sl_83, hG, hL2l, x_84, x_85, hS⟩ := hI
        rw [← K.Sl.puts sl_83]; clear sl_83
        have hMg2 := hG.good
        refine K.s (K.g (K.q [.pointer (some ⟨b_15, 0, none⟩), .pointer (some ⟨p_16, 0, none⟩), .int .i64 t] ?_))
        refine K.l (K.OW.gcall hS [1, 2] [0, 3, 4, 5] [.pointer (some ⟨b_15, 0, none⟩), .pointer (some ⟨p_16, 0, none⟩), .int .i64 t] (slots_ok _ _ _ _ _ _ c (by first | assumption | (unfold cfgOk; decide)) M2 _ _ hl_23 x_85 (by assumption) t (by omega)) ?_)
        clear hS; rintro _ _ w ⟨r_86, cc_87, l_88, rfl, rfl, o_89⟩ hS
        replace hS : K.Sat w0 [gl_20, l3, l_88, o2, m_22, g_2, fr] w := hS
        refine K.q [.slice r_86 ((slotsT c ((lns c).toNat) M2 t c.lo.toNat).length) cc_87] (K.z (K.t (K.s (K.g (K.q [.int .i64 0] (K.z (K.t (K.s (K.s (K.g (K.q [.int .i64 0] (K.z (K.t ?_)))))))))))))
        refine K.KW.block ?_
        refine K.KW.loop (fun m_ F_ w_ => ∃ (k : Nat), m_ = c.lo.toNat - k ∧ K.Sl F_ [(0, .agg #[.int .i64 c.th, .int .i64 c.sl, .int .i64 c.lo, .int .i64 c.bu]), (1, .int .i64 t), (2, .slice (some ⟨b_38, of_39, none⟩) xs.length cap), (3, .pointer (some ⟨r_1, 0, none⟩)), (7, .pointer (some ⟨b_15, 0, none⟩)), (8, .pointer (some ⟨p_16, 0, none⟩)), (10, .bool true), (11, .slice (some ⟨r_28, 0, none⟩) c.lo.toNat c.lo.toNat), (12, .int .i64 ((j : Nat) : Int)), (20, .slice r_86 ((slotsT c ((lns c).toNat) M2 t c.lo.toNat).length) cc_87), (21, .int .i64 (((slotsT c ((lns c).toNat) M2 t k).length : Nat) : Int)), (22, .int .i64 ((k : Nat) : Int)), (176, undef)] ∧ k ≤ c.lo.toNat ∧ K.Sat w0 [gl_20, l3, l_88, o2, m_22, g_2, fr] w_) ((fun (k : Nat) => c.lo.toNat - k) 0) ?_ ?_
        ·
         exact ⟨0, rfl, ⟨by rfl, by rfl, by rfl, by rfl, by rfl, by rfl, by rfl, by rfl, by rfl, by rfl, by rfl, by rfl, by rfl, trivial⟩, (by omega), hS.pick [0, 1, 2, 3, 4, 5, 6]⟩
        ·
         clear hS
         intro m_90 F_91 w hI
         obtain ⟨k, rfl, sl_92, p_93, hS⟩ := hI
         rw [← K.Sl.puts sl_92]; clear sl_92
         refine K.s (K.s (K.g (K.q [.int .i64 ((k : Nat) : Int), .pointer (some ⟨r_1, 2, none⟩)] ?_)))
         refine K.d (.int .i64 c.lo) ((hS.blk 5 rfl hg_3).cell rfl) ?_
         by_cases h_94 : (((k : Nat) : Int) : Int) < (c.lo : Int)
         ·
          refine K.y ((((k : Nat) : Int) : Int) < (c.lo : Int)) h_94 ?_
          refine K.z (K.t (K.h (K.k (K.t (K.s ?_)))))
          refine K.KW.block ?_
          refine K.s ?_
          have hbk := hG.bd k
          refine K.g (K.q [.slice (some ⟨r_28, 0, none⟩) c.lo.toNat c.lo.toNat, .int .i64 ((k : Nat) : Int)] ?_)
          refine K.a (K.QR.ix k 1 rfl rfl rfl Try.underlying57 (by kernel_rfl) (by omega) (by first | (simp; done) | omega | (simp; omega))) ?_
          refine K.d (.int .i64 (L2.getD k 0)) (K.Own.atS (c := cI64) (d := 0) (fun _ => rfl) (hS.ownr 3 rfl x_84) hL2l k (by omega)) ?_
          by_cases h_95 : (L2.getD k 0 : Int) > (0 : Int)
          ·
           refine K.y ((L2.getD k 0 : Int) > (0 : Int)) h_95 ?_
           refine K.z (K.t (K.h (K.s (K.s ?_))))
           have hpk := hG.at_ k (by omega)
           have hsl := slotsT_len (c := c) (n := (lns c).toNat) (M := M2) (tt := t) (k := k)
           obtain ⟨hlt, hget⟩ := slotsT_at (N := c.lo.toNat) hpk (by omega) (by omega)
           obtain ⟨b_96, rfl⟩ := o_89.some_ (by have := o_89.le; omega)
           refine K.KW.gdrawn [2] hS (by kernel_rfl) ?_
           clear hS; intro w hS
           refine K.p 0 rfl (.int .i64 (((slotsT c ((lns c).toNat) M2 t k).length : Nat) : Int)) (hS.pick [2]) ?_
           refine K.b 1 rfl (.slice (some ⟨b_96, 0, none⟩) ((slotsT c ((lns c).toNat) M2 t c.lo.toNat).length) cc_87) (hS.pick [2]) ?_
           refine K.c 2 rfl (K.QR.len (P := Try.prog) rfl rfl Try.underlying57) (hS.pick [2]) ?_
           refine K.c 3 rfl (K.QR.nice (v := .bool (decide (((((slotsT c ((lns c).toNat) M2 t k).length : Nat) : Int) : Int) ≥ ((((slotsT c ((lns c).toNat) M2 t c.lo.toNat).length : Nat) : Int) : Int)))) (by kernel_rfl) (congrArg Value.bool (decide_eq_false (by omega)))) (hS.pick [2]) ?_
           refine K.b 4 rfl (.bool false) (hS.pick [2]) ?_
           refine K.p 5 rfl (.slice (some ⟨b_96, 0, none⟩) ((slotsT c ((lns c).toNat) M2 t c.lo.toNat).length) cc_87) (hS.pick [2]) ?_
           refine K.p 6 rfl (.int .i64 (((slotsT c ((lns c).toNat) M2 t k).length : Nat) : Int)) (hS.pick [2]) ?_
           refine K.m 7 rfl (fun w hS => K.QR.ix ((slotsT c ((lns c).toNat) M2 t k).length) 1 rfl rfl rfl Try.underlying57 (by kernel_rfl) (by omega) (by first | (simp; done) | omega | (simp; omega))) (hS.pick [2]) ?_
           refine K.o_ 8 rfl (.int .i64 ((slotsT c ((lns c).toNat) M2 t c.lo.toNat).getD ((slotsT c ((lns c).toNat) M2 t k).length) 0)) (fun w hS => (K.Own.atS (c := cI64) (d := 0) (fun _ => rfl) (hS.ownr 0 rfl o_89) rfl ((slotsT c ((lns c).toNat) M2 t k).length) (by omega))) (hS.pick [2]) ?_
           refine K.p 9 rfl (.slice (some ⟨r_28, 0, none⟩) c.lo.toNat c.lo.toNat) (hS.pick [2]) ?_
           refine K.b 10 rfl (.int .i64 ((k : Nat) : Int)) (hS.pick [2]) ?_
           refine K.c 11 rfl (K.QR.ix k 1 rfl rfl rfl Try.underlying57 (by kernel_rfl) (by omega) (by first | (simp; done) | omega | (simp; omega))) (hS.pick [2]) ?_
           refine K.c 12 rfl (K.QR.ld1 (v := .int .i64 (L2.getD k 0)) rfl rfl (by kernel_rfl) (K.Own.atS (c := cI64) (d := 0) (fun _ => rfl) (hS.ownr 3 rfl x_84) hL2l k (by omega))) (hS.pick [2]) ?_
           refine K.c 13 rfl (K.QR.n64 ((L2.getD k 0 : Int) - (1 : Int)) ((L2.getD k 0 : Int) - (1 : Int)) (by kernel_rfl) (by omega)) (hS.pick [2]) ?_
           refine K.c 14 rfl (K.QR.nice (v := .bool (((slotsT c ((lns c).toNat) M2 t c.lo.toNat).getD ((slotsT c ((lns c).toNat) M2 t k).length) 0 : Int) != ((L2.getD k 0 : Int) - (1 : Int) : Int))) (by kernel_rfl) (congrArg Value.bool (bne_eq_false_iff_eq.2 (hget.trans (by unfold toI; omega))))) (hS.pick [2]) ?_
           refine K.b 15 rfl (.bool false) (hS.pick [2]) ?_
           refine K.DW.done (by kernel_rfl) ?_
           refine K.t (K.f (K.k (K.t (K.g (K.q [.int .i64 (((slotsT c ((lns c).toNat) M2 t k).length : Nat) : Int)] ?_)))))
           refine K.a (K.QR.n64 (((((slotsT c ((lns c).toNat) M2 t k).length : Nat) : Int) : Int) + (1 : Int)) (((slotsT c ((lns c).toNat) M2 t k).length + 1 : Nat) : Int) (by kernel_rfl) (by omega)) ?_
           refine K.q [.int .i64 (((slotsT c ((lns c).toNat) M2 t k).length + 1 : Nat) : Int)] (K.z ?_)
           refine K.blk_normal ?_
           refine K.t (K.g (K.q [.int .i64 ((k : Nat) : Int)] ?_))
           refine K.a (K.QR.n64 ((((k : Nat) : Int) : Int) + (1 : Int)) ((k + 1 : Nat) : Int) (by kernel_rfl) (by omega)) ?_
           refine K.q [.int .i64 ((k + 1 : Nat) : Int)] (K.z (K.t ?_))
           refine ⟨_, ?_, k + 1, rfl, ⟨by rfl, by rfl, by rfl, by rfl, by rfl, by rfl, by rfl, by rfl, by rfl, by rfl, congrArg (fun m_ : Nat => Value.int .i64 (m_ : Int)) (show (slotsT c ((lns c).toNat) M2 t k).length + 1 = (slotsT c ((lns c).toNat) M2 t (k + 1)).length from by rw [slotsT_yes (hG.at_ k (by omega)) (show ¬ L2.getD k 0 = 0 by omega)]; simp), by rfl, by rfl, trivial⟩, (by omega), hS.pick [0, 1, 2, 3, 4, 5, 6]⟩
           omega
          ·
           refine K.x ((L2.getD k 0 : Int) > (0 : Int)) h_95 ?_
           refine K.z (K.t (K.f (K.k ?_)))
           refine K.blk_normal ?_
           refine K.t (K.g (K.q [.int .i64 ((k : Nat) : Int)] ?_))
           refine K.a (K.QR.n64 ((((k : Nat) : Int) : Int) + (1 : Int)) ((k + 1 : Nat) : Int) (by kernel_rfl) (by omega)) ?_
           refine K.q [.int .i64 ((k + 1 : Nat) : Int)] (K.z (K.t ?_))
           refine ⟨_, ?_, k + 1, rfl, ⟨by rfl, by rfl, by rfl, by rfl, by rfl, by rfl, by rfl, by rfl, by rfl, by rfl, congrArg (fun m_ : Nat => Value.int .i64 (m_ : Int)) (show (slotsT c ((lns c).toNat) M2 t k).length = (slotsT c ((lns c).toNat) M2 t (k + 1)).length from by rw [slotsT_no (by rw [hG.at_ k (by omega)]; show L2.getD k 0 = 0; omega)]), by rfl, by rfl, trivial⟩, (by omega), hS.pick [0, 1, 2, 3, 4, 5, 6]⟩
           omega
         ·
          refine K.x ((((k : Nat) : Int) : Int) < (c.lo : Int)) h_94 ?_
          refine K.z (K.t (K.f ?_))
          refine K.KW.exit ?_
          refine K.thn_exit ?_
          refine K.thn_exit ?_
          refine K.blk_hit ?_
          refine K.t (K.s (K.g (K.q [.int .i64 (((slotsT c ((lns c).toNat) M2 t k).length : Nat) : Int), .slice r_86 ((slotsT c ((lns c).toNat) M2 t c.lo.toNat).length) cc_87] ?_)))
          refine K.a (K.QR.len (P := Try.prog) rfl rfl Try.underlying57) ?_
          refine K.xn ((((slotsT c ((lns c).toNat) M2 t k).length : Nat) : Int) : Int) ((((slotsT c ((lns c).toNat) M2 t c.lo.toNat).length : Nat) : Int) : Int) (by rw [show k = c.lo.toNat by omega]) ?_
          refine K.z (K.t (K.f (K.k ?_)))
          refine K.blk_normal ?_
          refine K.t (K.g (K.q [.int .i64 ((j : Nat) : Int)] ?_))
          refine K.a (K.QR.n64 ((((j : Nat) : Int) : Int) + (1 : Int)) ((j + 1 : Nat) : Int) (by kernel_rfl) (by omega)) ?_
          refine K.q [.int .i64 ((j + 1 : Nat) : Int)] (K.z (K.t ?_))
          refine ⟨_, ?_, j + 1, L2, M2, o2, l3, rfl, ⟨by rfl, by rfl, by rfl, by rfl, by rfl, by rfl, by rfl, by rfl, by rfl, by rfl, trivial⟩, (by omega), (hG), (hL2l), x_84, x_85, hS.pick [3, 0, 1, 4, 5, 6]⟩
          omega
      ·
       refine K.x ((((j : Nat) : Int) : Int) < (((xs.length : Nat) : Int) : Int)) h_37 ?_
       refine K.z (K.t (K.f ?_))
       refine K.KW.exit ?_
       refine K.thn_exit ?_
       refine K.thn_exit ?_
       refine K.blk_hit ?_
       refine K.t (K.s (K.g ?_))
       refine K.l (K.OW.gcall hS [] [0, 1, 2, 3, 4, 5] [] (awake11_ok _) ?_)
       clear hS; rintro _ _ w ⟨rfl, rfl⟩ hS
       replace hS : K.Sat w0 [o1, gl_20, l1, m_22, g_2, fr] w := hS
       refine K.q [.bool true, .bool true, .bool true, .bool true] (K.z (K.t (K.r ?_)))
       refine ⟨.inr rfl, rfl, (.bool true), K.res1 rfl rfl, [], ?_, hS.pick [5]⟩
       exact rfl
 ·
  replace hS : K.Sat w0 [g_2, fr] w := hS
  refine K.q [.bool true, .bool true] (K.n_ (K.n_ (K.q [.bool true, .bool true] (K.n_ (K.n_ (K.n_ (K.n_ (K.q [.bool true, .bool true] (K.n_ (K.n_ (K.n_ (K.q [.bool true] (K.z (K.t ?_))))))))))))))
  refine K.h (K.s (K.g ?_))
  refine K.l (K.OW.gcall hS [] [0, 1] [] (awake11_ok _) ?_)
  clear hS; rintro _ _ w ⟨rfl, rfl⟩ hS
  replace hS : K.Sat w0 [g_2, fr] w := hS
  refine K.q [.bool true] (K.z (K.t (K.r (K.u ?_))))
  refine ⟨.inr rfl, rfl, (.bool true), K.res1 rfl rfl, [], ?_, hS.pick [1]⟩
  exact rfl
end Go.Proofs.Ytkmndplicmaahaa
