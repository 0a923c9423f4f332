/- The statement EpochAlone. -/
import Derived.Test.YtajkickofkeemaaFl10e
import Derived.Test.YtajkickofkeemaaLl10w
import Derived.Test.YtajkickofkeemaaLl9a
import Derived.Test.YtajkickofkeemaaKn
namespace Go.Proofs.Ytajkickofkeemaa
open Go.RowKit
set_option linter.unusedVariables false
attribute [local irreducible] K.KW K.RW K.DW K.OW K.QR K.KC

theorem mb_keep {mb : Bool} {now : Int} {xs : List Int} {j : Nat} (h : mb = true ↔ mayT now xs j) (hn : ¬ (xs.getD j 0 % 3 = 2 ∧ 0 < now)) : mb = true ↔ mayT now xs (j + 1) := h.trans (may_succ hn).symm
theorem mb_drop {now : Int} {xs : List Int} {j : Nat} (hn : xs.getD j 0 % 3 = 2 ∧ 0 < now) : false = true ↔ mayT now xs (j + 1) := ⟨fun h => (by cases h), fun h => absurd hn (h j (by omega))⟩
theorem mb_no {now : Int} {xs : List Int} {j : Nat} (h : false = true ↔ mayT now xs j) : ¬ mayT now xs j := fun h1 => by cases h.2 h1

theorem layM_ok (w0 : World) (c : Cfg) (pa : Option Addr) (cp m : Nat) (ps : List PutM) (lx : ps.length = m) (hg : ∀ j, j < ps.length → isInt (ps.getD j pu0).at_) (hs : fewC c ∧ ps.length ≤ 100) (gp : K.Cs) (xp : ∀ w, K.Sat w0 [gp] w → K.RowE w pa ps.length 2 (fun i => cPut (ps.getD i pu0))) :
  K.GC Try.prog w0 12 #[.agg #[.int .i64 c.th, .int .i64 c.sl, .int .i64 c.lo, .int .i64 c.bu, .slice pa m cp]] [gp] (fun v post => ∃ b p q r u n k gl l m, v = .tuple #[.pointer (some ⟨b, 0, none⟩), .pointer (some ⟨p, 0, none⟩), .pointer (some ⟨r, 0, none⟩), .bool true] ∧ post = [gp, gl, l, m] ∧ gl = layPt b c ∧ MemAt l p q n c.th.toNat (groundM n c.th.toNat k ps) ∧ RMemAt m r u n c.th.toNat (groundM n c.th.toNat k ps) ∧ n = (lns c).toNat ∧ k = (2 + c.th + c.sl).toNat ∧ fewC c ∧ ps.length ≤ 100) := by
 subst lx
 exact layS_ok w0 c pa cp ps hg hs gp xp

set_option maxHeartbeats 1000000 in
set_option maxRecDepth 100000 in
theorem l10alone_ok (w0 : World) (c : Cfg) (now : Int) (hn8 : 0 ≤ now ∧ now ≤ 255) (a : Option Addr) (cap : Nat) (xs : List Int) (hx8 : ∀ i, i < xs.length → 0 ≤ xs.getD i 0 ∧ xs.getD i 0 ≤ 255) (hm : xs.length ≤ 9223372036854775807) (hx : K.RowE w0 a xs.length 1 (fun i => cU8 (xs.getD i 0))) :
  K.GC Try.prog w0 4 #[.agg #[.int .i64 c.th, .int .i64 c.sl, .int .i64 c.lo, .int .i64 c.bu], .int .u8 now, .slice a xs.length cap] [] (fun v post => v = .bool true) := by
 refine K.GC.mk (n := 155) Try.func4 rfl rfl [.agg #[.int .i64 c.th, .int .i64 c.sl, .int .i64 c.lo, .int .i64 c.bu], .int .u8 now, .slice a xs.length cap] rfl rfl ?_
 intro fr w hS
 replace hS : K.Sat w0 [fr] w := hS
 refine K.s (K.g ?_)
 refine K.l (K.OW.gnew 23 [.int .i64 c.th, .int .i64 c.sl, .int .i64 c.lo, .int .i64 c.bu] hS ?_)
 clear hS; intro w r_1 g_2 hg_3 hS
 refine K.q [.bool false] (K.z (K.t (K.s (K.s (K.g ?_)))))
 refine K.a (K.QR.ldN [.int .i64 c.th, .int .i64 c.sl, .int .i64 c.lo, .int .i64 c.bu] rfl rfl (by kernel_rfl) (by kernel_rfl) (K.cells (K.cl ((hS.blk 0 rfl hg_3).cell rfl) (K.cl ((hS.blk 0 rfl hg_3).cell rfl) (K.cl ((hS.blk 0 rfl hg_3).cell rfl) (K.cl ((hS.blk 0 rfl hg_3).cell rfl) K.cl0)))))) ?_
 refine K.l (K.OW.gcall hS [] [0, 1] [.agg #[.int .i64 c.th, .int .i64 c.sl, .int .i64 c.lo, .int .i64 c.bu]] (few09_ok _ c) ?_)
 clear hS; rintro _ _ w ⟨rfl, (⟨rfl, h_4⟩ | ⟨rfl, h_5⟩)⟩ hS
 ·
  replace hS : K.Sat w0 [g_2, fr] w := hS
  have hc_6 := h_4.1
  obtain ⟨hf_7, hf_8, hf_9, hf_10, hf_11⟩ := (show _ from (by have h := h_4; unfold fewC cfgOk at h; exact h))
  refine K.q [.bool false, .bool false, .slice a xs.length cap] ?_
  refine K.a (K.QR.len (P := Try.prog) rfl rfl Try.underlying25) ?_
  refine K.q [.pointer (some ⟨r_1, 0, none⟩)] ?_
  refine K.d (.int .i64 c.th) ((hS.blk 0 rfl hg_3).cell rfl) ?_
  by_cases h_12 : (((xs.length : Nat) : Int) : Int) = (c.th : Int)
  ·
   refine K.xn (((xs.length : Nat) : Int) : Int) (c.th : Int) h_12 ?_
   refine K.q [.bool false] (K.z (K.t (K.f (K.k (K.t (K.s (K.g ?_)))))))
   refine K.a (K.QR.ldN [.int .i64 c.th, .int .i64 c.sl, .int .i64 c.lo, .int .i64 c.bu] rfl rfl (by kernel_rfl) (by kernel_rfl) (K.cells (K.cl ((hS.blk 0 rfl hg_3).cell rfl) (K.cl ((hS.blk 0 rfl hg_3).cell rfl) (K.cl ((hS.blk 0 rfl hg_3).cell rfl) (K.cl ((hS.blk 0 rfl hg_3).cell rfl) K.cl0)))))) ?_
   refine K.q [.int .u8 now] ?_
   refine K.a (K.QR.nice (v := .int .u64 (IntKind.u64.wrap now)) (by kernel_rfl) (congrArg (Value.int .u64) (IntWalk.u64_in _ (by omega)))) ?_
   refine K.a (K.QR.bd [(0, .int .i64 (-1)), (1, .int .u64 now)] [.int .i64 (-1), .int .u64 now] rfl rfl (by kernel_rfl)) ?_
   refine K.l (K.OW.gbs [(0, .agg #[.int .i64 (-1), .int .u64 now])] [.int .i64 (-1), .int .u64 now] hS (fun w => K.bs_run (P := Try.prog) w 35 34 1 _ _ Try.underlying35 (by kernel_rfl)) ?_)
   clear hS; intro w r_13 g_14 hg_15 hS
   refine K.a (K.QR.bd [(0, .agg #[.int .i64 c.th, .int .i64 c.sl, .int .i64 c.lo, .int .i64 c.bu]), (1, .slice (some ⟨r_13, 0, none⟩) 1 1)] [.int .i64 c.th, .int .i64 c.sl, .int .i64 c.lo, .int .i64 c.bu, .slice (some ⟨r_13, 0, none⟩) 1 1] rfl rfl (by kernel_rfl)) ?_
   refine K.l (K.OW.gnew 37 [.int .i64 0, .int .i64 0, .int .i64 0, .int .i64 0, .slice none 0 0] hS ?_)
   clear hS; intro w r_16 g_17 hg_18 hS
   refine K.l (K.OW.gst 0 [.int .i64 c.th, .int .i64 c.sl, .int .i64 c.lo, .int .i64 c.bu, .slice (some ⟨r_13, 0, none⟩) 1 1] [.int .i64 c.th, .int .i64 c.sl, .int .i64 c.lo, .int .i64 c.bu, .slice (some ⟨r_13, 0, none⟩) 1 1] hS hg_18 ?_)
   clear hS; intro w g_19 hg_20 hS
   replace hS : K.Sat w0 [g_19, g_14, g_2, fr] w := hS
   refine K.z (K.t (K.s (K.g (K.q [.bool true] (K.z (K.t (K.s (K.s (K.g (K.q [.int .i64 0] (K.z (K.t ?_))))))))))))
   refine K.KW.block ?_
   have o_21 : K.OwnG g_14 34 2 (some ⟨r_13, 0, none⟩) 1 1 ((putsA now xs 0).flatMap cPut) := K.OwnG.ofPt hg_15 1 (by unfold maxLen; omega) rfl
   refine K.KW.loop (fun m_ F_ w_ => ∃ (j : Nat) (mb : Bool) (q1 : Option Addr) (c1 : Nat) (b7 : K.Cs) (o1 : K.Cs), m_ = xs.length - j ∧ K.Sl F_ [(0, .agg #[.int .i64 c.th, .int .i64 c.sl, .int .i64 c.lo, .int .i64 c.bu]), (1, .int .u8 now), (2, .slice a xs.length cap), (3, .pointer (some ⟨r_1, 0, none⟩)), (6, .bool false), (7, .pointer (some ⟨r_16, 0, none⟩)), (8, .bool mb), (9, .int .i64 ((j : Nat) : Int)), (155, undef)] ∧ j ≤ xs.length ∧ (mb = true ↔ mayT now xs j) ∧ b7 = [K.pt r_16 37 [.int .i64 c.th, .int .i64 c.sl, .int .i64 c.lo, .int .i64 c.bu, .slice q1 (j + 1) c1]] ∧ K.OwnG o1 34 2 q1 (j + 1) c1 (((putsA now xs j)).flatMap cPut) ∧ K.Sat w0 [b7, o1, g_2, fr] w_) ((fun (j : Nat) (mb : Bool) (q1 : Option Addr) (c1 : Nat) => xs.length - j) 0 true (some ⟨r_13, 0, none⟩) 1) ?_ ?_
   ·
    exact ⟨0, true, (some ⟨r_13, 0, none⟩), 1, g_19, g_14, rfl, ⟨by rfl, by rfl, by rfl, by rfl, by rfl, by rfl, by rfl, by rfl, by rfl, trivial⟩, (by omega), (⟨fun _ k hk => absurd hk (by omega), fun _ => rfl⟩), hg_20, o_21, hS.pick [0, 1, 2, 3]⟩
   ·
    clear hS
    intro m_22 F_23 w hI
    obtain ⟨j, mb, q1, c1, b7, o1, rfl, sl_24, p_25, hmb, x_26, x_27, hS⟩ := hI
    rw [← K.Sl.puts sl_24]; clear sl_24
    refine K.s (K.s (K.g (K.q [.int .i64 ((j : Nat) : Int), .slice a xs.length cap] ?_)))
    refine K.a (K.QR.len (P := Try.prog) rfl rfl Try.underlying25) ?_
    by_cases h_28 : (((j : Nat) : Int) : Int) < (((xs.length : Nat) : Int) : Int)
    ·
     refine K.y ((((j : Nat) : Int) : Int) < (((xs.length : Nat) : Int) : Int)) h_28 ?_
     refine K.z (K.t (K.h (K.k (K.t (K.s ?_)))))
     refine K.KW.block ?_
     refine K.s (K.g (K.q [.int .u64 0] (K.z (K.t (K.s (K.s ?_))))))
     have hx8j := hx8 j (by omega)
     obtain ⟨b_29, of_30, rfl, _⟩ := hx.at_ (by omega)
     refine K.g (K.q [.slice (some ⟨b_29, of_30, none⟩) xs.length cap, .int .i64 ((j : Nat) : Int)] ?_)
     refine K.a (K.QR.ix (of_30 + j * 1) 1 rfl rfl rfl Try.underlying25 (by kernel_rfl) (by omega) (by first | (simp; done) | omega | (simp; omega))) ?_
     refine K.d (.int .u8 (xs.getD j 0)) ((hx.no hS.chg).ld j (by omega) 0 _ rfl) ?_
     refine K.a (K.QR.remany (k := .u8) (xs.getD j 0 : Int) 3 ((xs.getD j 0 : Int) % 3) (by kernel_rfl) (by omega) (by omega)) ?_
     by_cases h_31 : ((xs.getD j 0 : Int) % 3 : Int) = (1 : Int)
     ·
      refine K.ye ((xs.getD j 0 : Int) % 3 : Int) (1 : Int) h_31 ?_
      refine K.z (K.t (K.h (K.g (K.q [.int .u8 now] ?_))))
      refine K.a (K.QR.nice (v := .int .u64 (IntKind.u64.wrap now)) (by kernel_rfl) (congrArg (Value.int .u64) (IntWalk.u64_in _ (by omega)))) ?_
      refine K.a (K.QR.nu64 ((now : Int) + (1 : Int)) ((now : Int) + (1 : Int)) (by kernel_rfl) (by omega)) ?_
      refine K.q [.int .u64 ((now : Int) + (1 : Int))] (K.z (K.t (K.s (K.s (K.g (K.q [.slice (some ⟨b_29, of_30, none⟩) xs.length cap, .int .i64 ((j : Nat) : Int)] ?_))))))
      refine K.a (K.QR.ix (of_30 + j * 1) 1 rfl rfl rfl Try.underlying25 (by kernel_rfl) (by omega) (by first | (simp; done) | omega | (simp; omega))) ?_
      refine K.d (.int .u8 (xs.getD j 0)) ((hx.no hS.chg).ld j (by omega) 0 _ rfl) ?_
      refine K.a (K.QR.remany (k := .u8) (xs.getD j 0 : Int) 3 ((xs.getD j 0 : Int) % 3) (by kernel_rfl) (by omega) (by omega)) ?_
      refine K.xe ((xs.getD j 0 : Int) % 3 : Int) (2 : Int) (by omega) ?_
      refine K.q [.bool false] ?_
      refine K.RW.skip rfl (by kernel_rfl) ?_
      refine K.RW.skip rfl (by kernel_rfl) ?_
      refine K.q [.bool false] (K.z (K.t (K.f (K.k (K.t (K.g (K.q [.pointer (some ⟨r_16, 4, none⟩)] ?_)))))))
      refine K.d (.slice q1 (j + 1) c1) ((hS.blk 0 rfl x_26).cell rfl) ?_
      refine K.q [.int .i64 ((j : Nat) : Int)] ?_
      refine K.a (K.QR.n64 (((-3) : Int) - (((j : Nat) : Int) : Int)) (((-3) : Int) - (((j : Nat) : Int) : Int)) (by kernel_rfl) (by omega)) ?_
      refine K.q [.int .u64 ((now : Int) + (1 : Int))] ?_
      refine K.a (K.QR.bd [(0, .int .i64 (((-3) : Int) - (((j : Nat) : Int) : Int))), (1, .int .u64 ((now : Int) + (1 : Int)))] [.int .i64 (((-3) : Int) - (((j : Nat) : Int) : Int)), .int .u64 ((now : Int) + (1 : Int))] rfl rfl (by kernel_rfl)) ?_
      refine K.l (K.OW.gbs [(0, .agg #[.int .i64 (((-3) : Int) - (((j : Nat) : Int) : Int)), .int .u64 ((now : Int) + (1 : Int))])] [.int .i64 (((-3) : Int) - (((j : Nat) : Int) : Int)), .int .u64 ((now : Int) + (1 : Int))] hS (fun w => K.bs_run (P := Try.prog) w 35 34 1 _ _ Try.underlying35 (by kernel_rfl)) ?_)
      clear hS; intro w r_32 g_33 hg_34 hS
      refine K.l (K.OW.gapp (P := Try.prog) (xs := ((putsA now xs j)).flatMap cPut) (z := .agg #[.int .i64 0, .int .u64 0]) (size := 2) (bytes := 16) 2 [.int .i64 (((-3) : Int) - (((j : Nat) : Int) : Int)), .int .u64 ((now : Int) + (1 : Int))] hS x_27 ?_ (fun j u hj => (by rw [Nat.zero_add]; exact (hS.blk 0 rfl hg_34).cell hj)) (K.one_cells (by rfl)) (by rfl) Try.underlying35 (by kernel_rfl) rfl (by decide) (by unfold maxLen; omega) (by omega))
      clear hS; intro a_35 cap_36 w l_37 o_38 hS
      have ln_39 : (((putsA now xs j) ++ [(⟨((-3) : Int) - (((j : Nat) : Int) : Int), (now : Int) + (1 : Int)⟩ : PutM)])).length = j + 1 + 1 := by rw [List.length_append, (putsA_len _ _ _)]; rfl
      have o_38c := K.OwnG.cast (xs' := (((putsA now xs j) ++ [(⟨((-3) : Int) - (((j : Nat) : Int) : Int), (now : Int) + (1 : Int)⟩ : PutM)])).flatMap cPut) o_38 rfl (K.fl_snoc cPut (putsA now xs j) _ rfl)
      replace hS : K.Sat w0 [g_33, b7, l_37, g_2, fr] w := hS
      refine K.q [.pointer (some ⟨r_16, 4, none⟩)] ?_
      refine K.l (K.OW.gst 1 [.slice a_35 (j + 1 + 1) cap_36] [.int .i64 c.th, .int .i64 c.sl, .int .i64 c.lo, .int .i64 c.bu, .slice a_35 (j + 1 + 1) cap_36] hS x_26 ?_)
      clear hS; intro w g_40 hg_41 hS
      replace hS : K.Sat w0 [g_33, g_40, l_37, g_2, fr] w := hS
      refine K.z ?_
      refine K.blk_normal ?_
      refine K.t (K.g (K.q [.int .i64 ((j : Nat) : Int)] ?_))
      refine K.a (K.QR.n64 ((((j : Nat) : Int) : Int) + (1 : Int)) ((j + 1 : Nat) : Int) (by kernel_rfl) (by omega)) ?_
      refine K.q [.int .i64 ((j + 1 : Nat) : Int)] (K.z (K.t ?_))
      refine ⟨_, ?_, j + 1, mb, a_35, cap_36, g_40, l_37, rfl, ⟨by rfl, by rfl, by rfl, by rfl, by rfl, by rfl, by rfl, by rfl, by rfl, trivial⟩, (by omega), (mb_keep hmb (by omega)), hg_41, (by rw [putsA_succ, wOf1 (by omega)]; simpa using o_38c), hS.pick [1, 2, 3, 4]⟩
      omega
     ·
      refine K.xe ((xs.getD j 0 : Int) % 3 : Int) (1 : Int) h_31 ?_
      refine K.z (K.t (K.f (K.k (K.t (K.s (K.s (K.g (K.q [.slice (some ⟨b_29, of_30, none⟩) xs.length cap, .int .i64 ((j : Nat) : Int)] ?_))))))))
      refine K.a (K.QR.ix (of_30 + j * 1) 1 rfl rfl rfl Try.underlying25 (by kernel_rfl) (by omega) (by first | (simp; done) | omega | (simp; omega))) ?_
      refine K.d (.int .u8 (xs.getD j 0)) ((hx.no hS.chg).ld j (by omega) 0 _ rfl) ?_
      refine K.a (K.QR.remany (k := .u8) (xs.getD j 0 : Int) 3 ((xs.getD j 0 : Int) % 3) (by kernel_rfl) (by omega) (by omega)) ?_
      by_cases h_42 : ((xs.getD j 0 : Int) % 3 : Int) = (2 : Int)
      ·
       refine K.ye ((xs.getD j 0 : Int) % 3 : Int) (2 : Int) h_42 ?_
       refine K.q [.bool true, .int .u8 now] ?_
       by_cases h_43 : (now : Int) > (0 : Int)
       ·
        refine K.y ((now : Int) > (0 : Int)) h_43 ?_
        refine K.q [.bool true] (K.z (K.t (K.h (K.s (K.g (K.q [.int .u8 now] ?_))))))
        refine K.a (K.QR.nice (v := .int .u64 (IntKind.u64.wrap now)) (by kernel_rfl) (congrArg (Value.int .u64) (IntWalk.u64_in _ (by omega)))) ?_
        refine K.q [.int .u64 now] (K.z (K.t (K.g (K.q [.bool false] (K.z (K.t (K.g (K.q [.pointer (some ⟨r_16, 4, none⟩)] ?_))))))))
        refine K.d (.slice q1 (j + 1) c1) ((hS.blk 0 rfl x_26).cell rfl) ?_
        refine K.q [.int .i64 ((j : Nat) : Int)] ?_
        refine K.a (K.QR.n64 (((-3) : Int) - (((j : Nat) : Int) : Int)) (((-3) : Int) - (((j : Nat) : Int) : Int)) (by kernel_rfl) (by omega)) ?_
        refine K.q [.int .u64 now] ?_
        refine K.a (K.QR.bd [(0, .int .i64 (((-3) : Int) - (((j : Nat) : Int) : Int))), (1, .int .u64 now)] [.int .i64 (((-3) : Int) - (((j : Nat) : Int) : Int)), .int .u64 now] rfl rfl (by kernel_rfl)) ?_
        refine K.l (K.OW.gbs [(0, .agg #[.int .i64 (((-3) : Int) - (((j : Nat) : Int) : Int)), .int .u64 now])] [.int .i64 (((-3) : Int) - (((j : Nat) : Int) : Int)), .int .u64 now] hS (fun w => K.bs_run (P := Try.prog) w 35 34 1 _ _ Try.underlying35 (by kernel_rfl)) ?_)
        clear hS; intro w r_44 g_45 hg_46 hS
        refine K.l (K.OW.gapp (P := Try.prog) (xs := ((putsA now xs j)).flatMap cPut) (z := .agg #[.int .i64 0, .int .u64 0]) (size := 2) (bytes := 16) 2 [.int .i64 (((-3) : Int) - (((j : Nat) : Int) : Int)), .int .u64 now] hS x_27 ?_ (fun j u hj => (by rw [Nat.zero_add]; exact (hS.blk 0 rfl hg_46).cell hj)) (K.one_cells (by rfl)) (by rfl) Try.underlying35 (by kernel_rfl) rfl (by decide) (by unfold maxLen; omega) (by omega))
        clear hS; intro a_47 cap_48 w l_49 o_50 hS
        have ln_51 : (((putsA now xs j) ++ [(⟨((-3) : Int) - (((j : Nat) : Int) : Int), now⟩ : PutM)])).length = j + 1 + 1 := by rw [List.length_append, (putsA_len _ _ _)]; rfl
        have o_50c := K.OwnG.cast (xs' := (((putsA now xs j) ++ [(⟨((-3) : Int) - (((j : Nat) : Int) : Int), now⟩ : PutM)])).flatMap cPut) o_50 rfl (K.fl_snoc cPut (putsA now xs j) _ rfl)
        replace hS : K.Sat w0 [g_45, b7, l_49, g_2, fr] w := hS
        refine K.q [.pointer (some ⟨r_16, 4, none⟩)] ?_
        refine K.l (K.OW.gst 1 [.slice a_47 (j + 1 + 1) cap_48] [.int .i64 c.th, .int .i64 c.sl, .int .i64 c.lo, .int .i64 c.bu, .slice a_47 (j + 1 + 1) cap_48] hS x_26 ?_)
        clear hS; intro w g_52 hg_53 hS
        replace hS : K.Sat w0 [g_45, g_52, l_49, g_2, fr] w := hS
        refine K.z ?_
        refine K.blk_normal ?_
        refine K.t (K.g (K.q [.int .i64 ((j : Nat) : Int)] ?_))
        refine K.a (K.QR.n64 ((((j : Nat) : Int) : Int) + (1 : Int)) ((j + 1 : Nat) : Int) (by kernel_rfl) (by omega)) ?_
        refine K.q [.int .i64 ((j + 1 : Nat) : Int)] (K.z (K.t ?_))
        refine ⟨_, ?_, j + 1, false, a_47, cap_48, g_52, l_49, rfl, ⟨by rfl, by rfl, by rfl, by rfl, by rfl, by rfl, by rfl, by rfl, by rfl, trivial⟩, (by omega), (mb_drop (by omega)), hg_53, (by rw [putsA_succ, wOf2 (by omega) (by omega)]; simpa using o_50c), hS.pick [1, 2, 3, 4]⟩
        omega
       ·
        refine K.x ((now : Int) > (0 : Int)) h_43 ?_
        refine K.q [.bool false] (K.z (K.t (K.f (K.k (K.t (K.g (K.q [.pointer (some ⟨r_16, 4, none⟩)] ?_)))))))
        refine K.d (.slice q1 (j + 1) c1) ((hS.blk 0 rfl x_26).cell rfl) ?_
        refine K.q [.int .i64 ((j : Nat) : Int)] ?_
        refine K.a (K.QR.n64 (((-3) : Int) - (((j : Nat) : Int) : Int)) (((-3) : Int) - (((j : Nat) : Int) : Int)) (by kernel_rfl) (by omega)) ?_
        refine K.q [.int .u64 0] ?_
        refine K.a (K.QR.bd [(0, .int .i64 (((-3) : Int) - (((j : Nat) : Int) : Int))), (1, .int .u64 0)] [.int .i64 (((-3) : Int) - (((j : Nat) : Int) : Int)), .int .u64 0] rfl rfl (by kernel_rfl)) ?_
        refine K.l (K.OW.gbs [(0, .agg #[.int .i64 (((-3) : Int) - (((j : Nat) : Int) : Int)), .int .u64 0])] [.int .i64 (((-3) : Int) - (((j : Nat) : Int) : Int)), .int .u64 0] hS (fun w => K.bs_run (P := Try.prog) w 35 34 1 _ _ Try.underlying35 (by kernel_rfl)) ?_)
        clear hS; intro w r_54 g_55 hg_56 hS
        refine K.l (K.OW.gapp (P := Try.prog) (xs := ((putsA now xs j)).flatMap cPut) (z := .agg #[.int .i64 0, .int .u64 0]) (size := 2) (bytes := 16) 2 [.int .i64 (((-3) : Int) - (((j : Nat) : Int) : Int)), .int .u64 0] hS x_27 ?_ (fun j u hj => (by rw [Nat.zero_add]; exact (hS.blk 0 rfl hg_56).cell hj)) (K.one_cells (by rfl)) (by rfl) Try.underlying35 (by kernel_rfl) rfl (by decide) (by unfold maxLen; omega) (by omega))
        clear hS; intro a_57 cap_58 w l_59 o_60 hS
        have ln_61 : (((putsA now xs j) ++ [(⟨((-3) : Int) - (((j : Nat) : Int) : Int), 0⟩ : PutM)])).length = j + 1 + 1 := by rw [List.length_append, (putsA_len _ _ _)]; rfl
        have o_60c := K.OwnG.cast (xs' := (((putsA now xs j) ++ [(⟨((-3) : Int) - (((j : Nat) : Int) : Int), 0⟩ : PutM)])).flatMap cPut) o_60 rfl (K.fl_snoc cPut (putsA now xs j) _ rfl)
        replace hS : K.Sat w0 [g_55, b7, l_59, g_2, fr] w := hS
        refine K.q [.pointer (some ⟨r_16, 4, none⟩)] ?_
        refine K.l (K.OW.gst 1 [.slice a_57 (j + 1 + 1) cap_58] [.int .i64 c.th, .int .i64 c.sl, .int .i64 c.lo, .int .i64 c.bu, .slice a_57 (j + 1 + 1) cap_58] hS x_26 ?_)
        clear hS; intro w g_62 hg_63 hS
        replace hS : K.Sat w0 [g_55, g_62, l_59, g_2, fr] w := hS
        refine K.z ?_
        refine K.blk_normal ?_
        refine K.t (K.g (K.q [.int .i64 ((j : Nat) : Int)] ?_))
        refine K.a (K.QR.n64 ((((j : Nat) : Int) : Int) + (1 : Int)) ((j + 1 : Nat) : Int) (by kernel_rfl) (by omega)) ?_
        refine K.q [.int .i64 ((j + 1 : Nat) : Int)] (K.z (K.t ?_))
        refine ⟨_, ?_, j + 1, mb, a_57, cap_58, g_62, l_59, rfl, ⟨by rfl, by rfl, by rfl, by rfl, by rfl, by rfl, by rfl, by rfl, by rfl, trivial⟩, (by omega), (mb_keep hmb (by omega)), hg_63, (by rw [putsA_succ, wOf0 (by omega) (by omega)]; simpa using o_60c), hS.pick [1, 2, 3, 4]⟩
        omega
      ·
       refine K.xe ((xs.getD j 0 : Int) % 3 : Int) (2 : Int) h_42 ?_
       refine K.q [.bool false] ?_
       refine K.RW.skip rfl (by kernel_rfl) ?_
       refine K.RW.skip rfl (by kernel_rfl) ?_
       refine K.q [.bool false] (K.z (K.t (K.f (K.k (K.t (K.g (K.q [.pointer (some ⟨r_16, 4, none⟩)] ?_)))))))
       refine K.d (.slice q1 (j + 1) c1) ((hS.blk 0 rfl x_26).cell rfl) ?_
       refine K.q [.int .i64 ((j : Nat) : Int)] ?_
       refine K.a (K.QR.n64 (((-3) : Int) - (((j : Nat) : Int) : Int)) (((-3) : Int) - (((j : Nat) : Int) : Int)) (by kernel_rfl) (by omega)) ?_
       refine K.q [.int .u64 0] ?_
       refine K.a (K.QR.bd [(0, .int .i64 (((-3) : Int) - (((j : Nat) : Int) : Int))), (1, .int .u64 0)] [.int .i64 (((-3) : Int) - (((j : Nat) : Int) : Int)), .int .u64 0] rfl rfl (by kernel_rfl)) ?_
       refine K.l (K.OW.gbs [(0, .agg #[.int .i64 (((-3) : Int) - (((j : Nat) : Int) : Int)), .int .u64 0])] [.int .i64 (((-3) : Int) - (((j : Nat) : Int) : Int)), .int .u64 0] hS (fun w => K.bs_run (P := Try.prog) w 35 34 1 _ _ Try.underlying35 (by kernel_rfl)) ?_)
       clear hS; intro w r_64 g_65 hg_66 hS
       refine K.l (K.OW.gapp (P := Try.prog) (xs := ((putsA now xs j)).flatMap cPut) (z := .agg #[.int .i64 0, .int .u64 0]) (size := 2) (bytes := 16) 2 [.int .i64 (((-3) : Int) - (((j : Nat) : Int) : Int)), .int .u64 0] hS x_27 ?_ (fun j u hj => (by rw [Nat.zero_add]; exact (hS.blk 0 rfl hg_66).cell hj)) (K.one_cells (by rfl)) (by rfl) Try.underlying35 (by kernel_rfl) rfl (by decide) (by unfold maxLen; omega) (by omega))
       clear hS; intro a_67 cap_68 w l_69 o_70 hS
       have ln_71 : (((putsA now xs j) ++ [(⟨((-3) : Int) - (((j : Nat) : Int) : Int), 0⟩ : PutM)])).length = j + 1 + 1 := by rw [List.length_append, (putsA_len _ _ _)]; rfl
       have o_70c := K.OwnG.cast (xs' := (((putsA now xs j) ++ [(⟨((-3) : Int) - (((j : Nat) : Int) : Int), 0⟩ : PutM)])).flatMap cPut) o_70 rfl (K.fl_snoc cPut (putsA now xs j) _ rfl)
       replace hS : K.Sat w0 [g_65, b7, l_69, g_2, fr] w := hS
       refine K.q [.pointer (some ⟨r_16, 4, none⟩)] ?_
       refine K.l (K.OW.gst 1 [.slice a_67 (j + 1 + 1) cap_68] [.int .i64 c.th, .int .i64 c.sl, .int .i64 c.lo, .int .i64 c.bu, .slice a_67 (j + 1 + 1) cap_68] hS x_26 ?_)
       clear hS; intro w g_72 hg_73 hS
       replace hS : K.Sat w0 [g_65, g_72, l_69, g_2, fr] w := hS
       refine K.z ?_
       refine K.blk_normal ?_
       refine K.t (K.g (K.q [.int .i64 ((j : Nat) : Int)] ?_))
       refine K.a (K.QR.n64 ((((j : Nat) : Int) : Int) + (1 : Int)) ((j + 1 : Nat) : Int) (by kernel_rfl) (by omega)) ?_
       refine K.q [.int .i64 ((j + 1 : Nat) : Int)] (K.z (K.t ?_))
       refine ⟨_, ?_, j + 1, mb, a_67, cap_68, g_72, l_69, rfl, ⟨by rfl, by rfl, by rfl, by rfl, by rfl, by rfl, by rfl, by rfl, by rfl, trivial⟩, (by omega), (mb_keep hmb (by omega)), hg_73, (by rw [putsA_succ, wOf0 (by omega) (by omega)]; simpa using o_70c), hS.pick [1, 2, 3, 4]⟩
       omega
    ·
     refine K.x ((((j : Nat) : Int) : Int) < (((xs.length : Nat) : Int) : Int)) h_28 ?_
     refine K.z (K.t (K.f ?_))
     refine K.KW.exit ?_
     refine K.thn_exit ?_
     refine K.thn_exit ?_
     refine K.blk_hit ?_
     refine K.t (K.s (K.g ?_))
     refine K.a (K.QR.ldN [.int .i64 c.th, .int .i64 c.sl, .int .i64 c.lo, .int .i64 c.bu, .slice q1 (j + 1) c1] rfl rfl (by kernel_rfl) (by kernel_rfl) (K.cells (K.cl ((hS.blk 0 rfl x_26).cell rfl) (K.cl ((hS.blk 0 rfl x_26).cell rfl) (K.cl ((hS.blk 0 rfl x_26).cell rfl) (K.cl ((hS.blk 0 rfl x_26).cell rfl) (K.cl ((hS.blk 0 rfl x_26).cell rfl) K.cl0))))))) ?_
     refine K.l (K.OW.gcall hS [1] [0, 2, 3] [.agg #[.int .i64 c.th, .int .i64 c.sl, .int .i64 c.lo, .int .i64 c.bu, .slice q1 (j + 1) c1]] (layM_ok _ c _ _ _ (putsA now xs j) (putsA_len _ _ _) (fun j hj => (putsA_good hn8 (by omega) j hj).1) (⟨by assumption, by rw [putsA_len]; omega⟩) _ (fun w h => K.RowE.len (K.Own.rowE pu0 (h.ownr 0 rfl x_27) (putsA_len _ _ _) (fun _ => rfl)) (putsA_len _ _ _))) ?_)
     clear hS; rintro _ _ w ⟨b_74, p_75, q_76, r_77, u_78, _, _, gl_79, l_80, m_81, rfl, rfl, hl_82, x_83, y_84, rfl, rfl, hf_85, hp_86⟩ hS
     replace hS : K.Sat w0 [o1, gl_79, l_80, m_81, b7, g_2, fr] w := hS
     have hI0 := AInv.start (c := c) (n := ((lns c).toNat)) (t := (c.th.toNat)) (k := (2 + c.th + c.sl).toNat) (m := j) (xs := xs) hn8 (by omega) (by omega) (by omega)
     have hM0 := hI0.mg
     have hcl0 := hI0.c0
     generalize groundM ((lns c).toNat) (c.th.toNat) (2 + c.th + c.sl).toNat (putsA now xs j) = M0 at x_83 hI0 hM0 hcl0
     refine K.q [.tuple #[.pointer (some ⟨b_74, 0, none⟩), .pointer (some ⟨p_75, 0, none⟩), .pointer (some ⟨r_77, 0, none⟩), .bool true], .pointer (some ⟨b_74, 0, none⟩), .pointer (some ⟨p_75, 0, none⟩), .pointer (some ⟨r_77, 0, none⟩), .bool true, .pointer (some ⟨b_74, 0, none⟩), .pointer (some ⟨p_75, 0, none⟩), .pointer (some ⟨r_77, 0, none⟩), .bool true] (K.z (K.t (K.s (K.g (K.q [.pointer (some ⟨b_74, 0, none⟩)] ?_)))))
     refine K.l (K.OW.gcall hS [] [0, 1, 2, 3, 4, 5, 6] [.pointer (some ⟨b_74, 0, none⟩), .int .i64 0] (newadv_ok _ _ (0 : Int)) ?_)
     clear hS; rintro _ _ w ⟨p_87, g_88, rfl, rfl, h_89⟩ hS
     replace hS : K.Sat w0 [g_88, o1, gl_79, l_80, m_81, b7, g_2, fr] w := hS
     have hS_90 : AdvS.good (⟨0, false, 0, 0, 0, false⟩ : AdvS) := ⟨(by omega : isInt (0 : Int)), isW00, ⟨Int.le_refl _, (by decide : (0 : Int) ≤ 64)⟩, .inr (.inl ⟨rfl, rfl⟩)⟩
     refine K.q [.pointer (some ⟨p_87, 0, none⟩)] (K.z (K.t (K.s (K.g (K.q [.pointer (some ⟨p_75, 0, none⟩)] ?_)))))
     refine K.l (K.OW.gcall hS [3] [0, 1, 2, 4, 5, 6, 7] [.pointer (some ⟨p_75, 0, none⟩)] (mClock_ok _ _ _ _ _ _ _ x_83 ) ?_)
     clear hS; rintro _ _ w ⟨rfl, rfl⟩ hS
     replace hS : K.Sat w0 [l_80, g_88, o1, gl_79, m_81, b7, g_2, fr] w := hS
     refine K.q [.int .i64 M0.clock] (K.z (K.t (K.s (K.s (K.g (K.q [.int .i64 0] (K.z (K.t ?_))))))))
     refine K.KW.block ?_
     refine K.KW.loop (fun m_ F_ w_ => ∃ (i : Nat) (S : AdvS) (M : MemM) (g1 : K.Cs) (l1 : K.Cs), m_ = 20 - i ∧ K.Sl F_ [(0, .agg #[.int .i64 c.th, .int .i64 c.sl, .int .i64 c.lo, .int .i64 c.bu]), (1, .int .u8 now), (2, .slice a xs.length cap), (3, .pointer (some ⟨r_1, 0, none⟩)), (6, .bool false), (8, .bool mb), (12, .pointer (some ⟨p_75, 0, none⟩)), (14, .bool true), (15, .pointer (some ⟨p_87, 0, none⟩)), (16, .int .i64 M0.clock), (17, .int .i64 ((i : Nat) : Int)), (155, undef)] ∧ i ≤ 20 ∧ AInv c (lns c).toNat now (1 + c.th) (fun i => wOf now (xs.getD i 0)) i S M ∧ g1 = [K.pt p_87 101 [.pointer (some ⟨b_74, 0, none⟩), .int .i64 S.t, .bool S.done, .int .i64 S.pc, .int .u64 S.now, .int .i64 S.next, .bool S.moved]] ∧ MemAt l1 p_75 q_76 ((lns c).toNat) (c.th.toNat) M ∧ K.Sat w0 [l1, g1, o1, gl_79, m_81, b7, g_2, fr] w_) ((fun (i : Nat) (S : AdvS) (M : MemM) => 20 - i) 0 ⟨0, false, 0, 0, 0, false⟩ M0) ?_ ?_
     ·
      exact ⟨0, ⟨0, false, 0, 0, 0, false⟩, M0, g_88, l_80, rfl, ⟨by rfl, by rfl, by rfl, by rfl, by rfl, by rfl, by rfl, by rfl, by rfl, by rfl, by rfl, by rfl, trivial⟩, (by omega), (hI0), h_89, x_83, hS.pick [0, 1, 2, 3, 4, 5, 6, 7]⟩
     ·
      clear hS
      intro m_91 F_92 w hI
      obtain ⟨i, S, M, g1, l1, rfl, sl_93, p_94, hI, x_95, x_96, hS⟩ := hI
      rw [← K.Sl.puts sl_93]; clear sl_93
      have hSg := hI.good; have hMg := hI.mg
      refine K.s (K.s (K.g (K.q [.int .i64 ((i : Nat) : Int)] ?_)))
      by_cases h_97 : (((i : Nat) : Int) : Int) < (20 : Int)
      ·
       refine K.y ((((i : Nat) : Int) : Int) < (20 : Int)) h_97 ?_
       refine K.z (K.t (K.h (K.k (K.t (K.s ?_)))))
       refine K.KW.block ?_
       refine K.g (K.q [.pointer (some ⟨p_87, 0, none⟩), .pointer (some ⟨p_75, 0, none⟩)] ?_)
       refine K.l (K.OW.gcall hS [1, 3, 0] [2, 4, 5, 6, 7] [.pointer (some ⟨p_87, 0, none⟩), .pointer (some ⟨p_75, 0, none⟩)] (advStep_ok _ _ _ _ _ _ _ c (by first | assumption | (unfold cfgOk; decide)) S M _ _ _ x_95 hl_82 x_96 (by assumption) (by assumption)) ?_)
       clear hS; rintro _ _ w ⟨g_98, l_99, rfl, rfl, h_100, x_101⟩ hS
       replace hS : K.Sat w0 [g_98, gl_79, l_99, o1, m_81, b7, g_2, fr] w := hS
       obtain ⟨hS_102, hM_103⟩ := (advStep_good (by first | assumption | (unfold cfgOk; decide)) (by assumption) (by assumption) : (advStep c ((lns c).toNat) S M).1.good ∧ (advStep c ((lns c).toNat) S M).2.good)
       refine K.z ?_
       refine K.blk_normal ?_
       refine K.t (K.g (K.q [.int .i64 ((i : Nat) : Int)] ?_))
       refine K.a (K.QR.n64 ((((i : Nat) : Int) : Int) + (1 : Int)) ((i + 1 : Nat) : Int) (by kernel_rfl) (by omega)) ?_
       refine K.q [.int .i64 ((i + 1 : Nat) : Int)] (K.z (K.t ?_))
       refine ⟨_, ?_, i + 1, (advStep c ((lns c).toNat) S M).1, ((advStep c ((lns c).toNat) S M).2), g_98, l_99, rfl, ⟨by rfl, by rfl, by rfl, by rfl, by rfl, by rfl, by rfl, by rfl, by rfl, by rfl, by rfl, by rfl, trivial⟩, (by omega), (AInv.next (by assumption) hn8 (by omega) (by omega) (by omega) hI), h_100, x_101, hS.pick [2, 0, 3, 1, 4, 5, 6, 7]⟩
       omega
      ·
       refine K.x ((((i : Nat) : Int) : Int) < (20 : Int)) h_97 ?_
       refine K.z (K.t (K.f ?_))
       refine K.KW.exit ?_
       refine K.thn_exit ?_
       refine K.thn_exit ?_
       refine K.blk_hit ?_
       refine K.t (K.s ?_)
       cases mb with
       | false =>
        have hfin := hI.nay (by omega) (by omega) (by obtain ⟨k, hk, h⟩ := may_nay (mb_no hmb); exact ⟨k, by omega, h⟩)
        refine K.g (K.q [.pointer (some ⟨p_75, 0, none⟩)] ?_)
        refine K.l (K.OW.gcall hS [0] [1, 2, 3, 4, 5, 6, 7] [.pointer (some ⟨p_75, 0, none⟩), .int .i64 (-1)] (pkS_ok _ _ _ _ _ _ _ x_96 ((-1) : Int) (by first | omega | assumption | exact aft_int (by assumption) _ | exact ann_int (by assumption) _ (by first | omega | assumption)) now (hfin.2.2.1)) ?_)
        clear hS; rintro _ _ w ⟨rfl, rfl⟩ hS
        replace hS : K.Sat w0 [l1, g1, o1, gl_79, m_81, b7, g_2, fr] w := hS
        refine K.q [.tuple #[.int .u64 now, .bool true], .int .u64 now, .bool true, .int .u64 now, .bool true] (K.z (K.t (K.s (K.s (K.g (K.q [.bool false] (K.z (K.t (K.f (K.k (K.t (K.s ?_))))))))))))
        refine K.KW.gdrawn [6] hS (by kernel_rfl) ?_
        clear hS; intro w hS
        refine K.DW.l 0 rfl (by kernel_rfl) rfl (K.OW.gcall hS [] [0, 1, 2, 3, 4, 5, 6, 7] [] (awake10_ok _) ?_)
        clear hS; rintro _ _ w ⟨rfl, rfl⟩ hS
        replace hS : K.Sat w0 [l1, g1, o1, gl_79, m_81, b7, g_2, fr] w := hS
        refine ⟨.inl (hS.pick [6]), ?_⟩
        refine K.DW.l 1 rfl (by kernel_rfl) rfl (K.OW.q rfl (K.QR.k (v := .bool true) (by kernel_rfl)) ?_)
        refine ⟨.inl (hS.pick [6]), ?_⟩
        refine K.DW.l 2 rfl (by kernel_rfl) (by kernel_rfl) (K.OW.q rfl (K.QR.k (v := .bool true) (by kernel_rfl)) ?_)
        refine ⟨.inl (hS.pick [6]), ?_⟩
        refine K.DW.l 3 rfl (by kernel_rfl) rfl (K.OW.q rfl (K.QR.k (v := .bool true) (by kernel_rfl)) ?_)
        refine ⟨.inl (hS.pick [6]), ?_⟩
        refine K.DW.l 4 rfl (by kernel_rfl) rfl (K.OW.q rfl (K.QR.k (v := .bool true) (by kernel_rfl)) ?_)
        refine ⟨.inl (hS.pick [6]), ?_⟩
        refine K.DW.l 5 rfl (by kernel_rfl) (by kernel_rfl) (K.OW.q rfl (K.QR.k (v := .pointer (some ⟨p_87, 0, none⟩)) (by kernel_rfl)) ?_)
        refine ⟨.inl (hS.pick [6]), ?_⟩
        refine K.DW.l 6 rfl (by kernel_rfl) (by kernel_rfl) (K.OW.gcall hS [1] [0, 2, 3, 4, 5, 6, 7] [.pointer (some ⟨p_87, 0, none⟩)] (advDone_ok _ _ _ S _ x_95) ?_)
        clear hS; rintro _ _ w ⟨rfl, rfl⟩ hS
        replace hS : K.Sat w0 [g1, l1, o1, gl_79, m_81, b7, g_2, fr] w := hS
        refine ⟨.inl (hS.pick [6]), ?_⟩
        cases hb_104 : S.done
        ·cases (hb_104.symm.trans (show S.done = true from hfin.1))
        ·
         refine K.DW.l 7 rfl (by kernel_rfl) rfl (K.OW.q rfl (K.QR.k (v := .bool true) (by kernel_rfl)) ?_)
         refine ⟨.inl (hS.pick [6]), ?_⟩
         refine K.DW.l 8 rfl (by kernel_rfl) rfl (K.OW.q rfl (K.QR.k (v := .bool true) (by kernel_rfl)) ?_)
         refine ⟨.inl (hS.pick [6]), ?_⟩
         refine K.DW.l 9 rfl (by kernel_rfl) (by kernel_rfl) (K.OW.q rfl (K.QR.k (v := .pointer (some ⟨p_87, 0, none⟩)) (by kernel_rfl)) ?_)
         refine ⟨.inl (hS.pick [6]), ?_⟩
         refine K.DW.l 10 rfl (by kernel_rfl) (by kernel_rfl) (K.OW.gcall hS [0] [1, 2, 3, 4, 5, 6, 7] [.pointer (some ⟨p_87, 0, none⟩)] (advMoved_ok _ _ _ S _ x_95) ?_)
         clear hS; rintro _ _ w ⟨rfl, rfl⟩ hS
         replace hS : K.Sat w0 [g1, l1, o1, gl_79, m_81, b7, g_2, fr] w := hS
         refine ⟨.inl (hS.pick [6]), ?_⟩
         cases hb_105 : S.moved
         ·
          refine K.DW.l 11 rfl (by kernel_rfl) (by kernel_rfl) (K.OW.q rfl (K.QR.k (v := .bool true) (by kernel_rfl)) ?_)
          refine ⟨.inl (hS.pick [6]), ?_⟩
          refine K.DW.l 12 rfl (by kernel_rfl) rfl (K.OW.q rfl (K.QR.k (v := .bool true) (by kernel_rfl)) ?_)
          refine ⟨.inl (hS.pick [6]), ?_⟩
          refine K.DW.l 13 rfl (by kernel_rfl) rfl (K.OW.q rfl (K.QR.k (v := .bool true) (by kernel_rfl)) ?_)
          refine ⟨.inl (hS.pick [6]), ?_⟩
          refine K.DW.q 14 (by kernel_rfl) rfl rfl (by kernel_rfl) (by kernel_rfl) (fun w hS => K.QR.k (v := .int .u64 now) (by kernel_rfl)) (hS.pick [6]) ?_
          refine K.DW.l 15 rfl (by kernel_rfl) (by kernel_rfl) (K.OW.q rfl (K.QR.k (v := .int .u8 now) (by kernel_rfl)) ?_)
          refine ⟨.inl (hS.pick [6]), ?_⟩
          refine K.DW.l 16 rfl (by kernel_rfl) (by kernel_rfl) (K.OW.q rfl (K.QR.nice (v := .int .u64 (IntKind.u64.wrap now)) (by kernel_rfl) (congrArg (Value.int .u64) (IntWalk.u64_in _ (by omega)))) ?_)
          refine ⟨.inl (hS.pick [6]), ?_⟩
          refine K.DW.l 17 rfl (by kernel_rfl) (by kernel_rfl) (K.OW.q rfl (K.QR.nice (v := .bool ((now : Int) == (now : Int))) (by kernel_rfl) (congrArg Value.bool (beq_iff_eq.2 (rfl)))) ?_)
          refine ⟨.inl (hS.pick [6]), ?_⟩
          refine K.DW.l 18 rfl (by kernel_rfl) rfl (K.OW.q rfl (K.QR.k (v := .bool true) (by kernel_rfl)) ?_)
          refine ⟨.inl (hS.pick [6]), ?_⟩
          refine K.DW.l 19 rfl (by kernel_rfl) rfl (K.OW.q rfl (K.QR.k (v := .bool true) (by kernel_rfl)) ?_)
          refine ⟨.inl (hS.pick [6]), ?_⟩
          refine K.DW.q 20 (by kernel_rfl) rfl rfl (by kernel_rfl) (by kernel_rfl) (fun w hS => K.QR.k (v := .pointer (some ⟨p_75, 0, none⟩)) (by kernel_rfl)) (hS.pick [6]) ?_
          refine K.DW.q 22 (by kernel_rfl) rfl rfl (by kernel_rfl) (by kernel_rfl) (fun w hS => K.QR.k (v := .int .i64 M0.clock) (by kernel_rfl)) (hS.pick [6]) ?_
          refine K.DW.q 23 (by kernel_rfl) rfl rfl (by kernel_rfl) (by kernel_rfl) (fun w hS => K.QR.k (v := .pointer (some ⟨r_1, 0, none⟩)) (by kernel_rfl)) (hS.pick [6]) ?_
          refine K.DW.q 24 (by kernel_rfl) rfl rfl (by kernel_rfl) (by kernel_rfl) (fun w hS => K.QR.ld1 (v := .int .i64 c.th) rfl rfl (by kernel_rfl) ((hS.blk 0 rfl hg_3).cell rfl)) (hS.pick [6]) ?_
          refine K.DW.q 25 (by kernel_rfl) rfl rfl (by kernel_rfl) (by kernel_rfl) (fun w hS => K.QR.n64 ((M0.clock : Int) + (c.th : Int)) ((M0.clock : Int) + (c.th : Int)) (by kernel_rfl) (by omega)) (hS.pick [6]) ?_
          refine K.DW.q 26 (by kernel_rfl) rfl rfl (by kernel_rfl) (by kernel_rfl) (fun w hS => K.QR.n64 (((M0.clock : Int) + (c.th : Int) : Int) + (1 : Int)) (((M0.clock : Int) + (c.th : Int) : Int) + (1 : Int)) (by kernel_rfl) (by omega)) (hS.pick [6]) ?_
          refine K.DW.l 21 rfl (by kernel_rfl) (by kernel_rfl) (K.OW.gcall hS [1] [0, 2, 3, 4, 5, 6, 7] [.pointer (some ⟨p_75, 0, none⟩)] (mClock_ok _ _ _ _ _ _ _ x_96 ) ?_)
          clear hS; rintro _ _ w ⟨rfl, rfl⟩ hS
          replace hS : K.Sat w0 [l1, g1, o1, gl_79, m_81, b7, g_2, fr] w := hS
          refine ⟨.inl (hS.pick [6]), ?_⟩
          refine K.DW.l 27 rfl (by kernel_rfl) (by kernel_rfl) (K.OW.q rfl (K.QR.nice (v := .bool (decide ((M.clock : Int) ≤ (((M0.clock : Int) + (c.th : Int) : Int) + (1 : Int) : Int)))) (by kernel_rfl) (congrArg Value.bool (decide_eq_true (by have h := hfin.2.2.2; omega)))) ?_)
          refine ⟨.inl (hS.pick [6]), ?_⟩
          refine K.DW.l 28 rfl (by kernel_rfl) rfl (K.OW.q rfl (K.QR.k (v := .bool true) (by kernel_rfl)) ?_)
          refine ⟨.inl (hS.pick [6]), ?_⟩
          refine K.DW.l 29 rfl (by kernel_rfl) rfl (K.OW.q rfl (K.QR.k (v := .bool true) (by kernel_rfl)) ?_)
          refine ⟨.inl (hS.pick [6]), ?_⟩
          refine K.DW.done (by kernel_rfl) ?_
          refine K.t (K.r ?_)
          refine ⟨.inr rfl, rfl, (.bool true), K.res1 rfl rfl, [], ?_, hS.pick [7]⟩
          exact rfl
         ·cases (hb_105.symm.trans (show S.moved = false from hfin.2.1))
       | true =>
        have hfin := hI.yes (by omega) (by omega) (fun k hk => may_yes (hmb.1 rfl) k (by omega))
        refine K.g (K.q [.pointer (some ⟨p_75, 0, none⟩)] ?_)
        refine K.l (K.OW.gcall hS [0] [1, 2, 3, 4, 5, 6, 7] [.pointer (some ⟨p_75, 0, none⟩), .int .i64 (-1)] (pkS_ok _ _ _ _ _ _ _ x_96 ((-1) : Int) (by first | omega | assumption | exact aft_int (by assumption) _ | exact ann_int (by assumption) _ (by first | omega | assumption)) (now + 1) (hfin.2.2.1)) ?_)
        clear hS; rintro _ _ w ⟨rfl, rfl⟩ hS
        replace hS : K.Sat w0 [l1, g1, o1, gl_79, m_81, b7, g_2, fr] w := hS
        refine K.q [.tuple #[.int .u64 (now + 1), .bool true], .int .u64 (now + 1), .bool true, .int .u64 (now + 1), .bool true] (K.z (K.t (K.s (K.s (K.g (K.q [.bool true] (K.z (K.t (K.h (K.s ?_))))))))))
        refine K.KW.gdrawn [6] hS (by kernel_rfl) ?_
        clear hS; intro w hS
        refine K.DW.l 0 rfl (by kernel_rfl) rfl (K.OW.gcall hS [] [0, 1, 2, 3, 4, 5, 6, 7] [] (awake10_ok _) ?_)
        clear hS; rintro _ _ w ⟨rfl, rfl⟩ hS
        replace hS : K.Sat w0 [l1, g1, o1, gl_79, m_81, b7, g_2, fr] w := hS
        refine ⟨.inl (hS.pick [6]), ?_⟩
        refine K.DW.l 1 rfl (by kernel_rfl) rfl (K.OW.q rfl (K.QR.k (v := .bool true) (by kernel_rfl)) ?_)
        refine ⟨.inl (hS.pick [6]), ?_⟩
        refine K.DW.l 2 rfl (by kernel_rfl) (by kernel_rfl) (K.OW.q rfl (K.QR.k (v := .bool true) (by kernel_rfl)) ?_)
        refine ⟨.inl (hS.pick [6]), ?_⟩
        refine K.DW.l 3 rfl (by kernel_rfl) rfl (K.OW.q rfl (K.QR.k (v := .bool true) (by kernel_rfl)) ?_)
        refine ⟨.inl (hS.pick [6]), ?_⟩
        refine K.DW.l 4 rfl (by kernel_rfl) rfl (K.OW.q rfl (K.QR.k (v := .bool true) (by kernel_rfl)) ?_)
        refine ⟨.inl (hS.pick [6]), ?_⟩
        refine K.DW.l 5 rfl (by kernel_rfl) (by kernel_rfl) (K.OW.q rfl (K.QR.k (v := .pointer (some ⟨p_87, 0, none⟩)) (by kernel_rfl)) ?_)
        refine ⟨.inl (hS.pick [6]), ?_⟩
        refine K.DW.l 6 rfl (by kernel_rfl) (by kernel_rfl) (K.OW.gcall hS [1] [0, 2, 3, 4, 5, 6, 7] [.pointer (some ⟨p_87, 0, none⟩)] (advDone_ok _ _ _ S _ x_95) ?_)
        clear hS; rintro _ _ w ⟨rfl, rfl⟩ hS
        replace hS : K.Sat w0 [g1, l1, o1, gl_79, m_81, b7, g_2, fr] w := hS
        refine ⟨.inl (hS.pick [6]), ?_⟩
        cases hb_106 : S.done
        ·cases (hb_106.symm.trans (show S.done = true from hfin.1))
        ·
         refine K.DW.l 7 rfl (by kernel_rfl) rfl (K.OW.q rfl (K.QR.k (v := .bool true) (by kernel_rfl)) ?_)
         refine ⟨.inl (hS.pick [6]), ?_⟩
         refine K.DW.l 8 rfl (by kernel_rfl) rfl (K.OW.q rfl (K.QR.k (v := .bool true) (by kernel_rfl)) ?_)
         refine ⟨.inl (hS.pick [6]), ?_⟩
         refine K.DW.l 9 rfl (by kernel_rfl) (by kernel_rfl) (K.OW.q rfl (K.QR.k (v := .pointer (some ⟨p_87, 0, none⟩)) (by kernel_rfl)) ?_)
         refine ⟨.inl (hS.pick [6]), ?_⟩
         refine K.DW.l 10 rfl (by kernel_rfl) (by kernel_rfl) (K.OW.gcall hS [0] [1, 2, 3, 4, 5, 6, 7] [.pointer (some ⟨p_87, 0, none⟩)] (advMoved_ok _ _ _ S _ x_95) ?_)
         clear hS; rintro _ _ w ⟨rfl, rfl⟩ hS
         replace hS : K.Sat w0 [g1, l1, o1, gl_79, m_81, b7, g_2, fr] w := hS
         refine ⟨.inl (hS.pick [6]), ?_⟩
         cases hb_107 : S.moved
         ·cases (hb_107.symm.trans (show S.moved = true from hfin.2.1))
         ·
          refine K.DW.l 11 rfl (by kernel_rfl) rfl (K.OW.q rfl (K.QR.k (v := .bool true) (by kernel_rfl)) ?_)
          refine ⟨.inl (hS.pick [6]), ?_⟩
          refine K.DW.l 12 rfl (by kernel_rfl) rfl (K.OW.q rfl (K.QR.k (v := .bool true) (by kernel_rfl)) ?_)
          refine ⟨.inl (hS.pick [6]), ?_⟩
          refine K.DW.q 13 (by kernel_rfl) rfl rfl (by kernel_rfl) (by kernel_rfl) (fun w hS => K.QR.k (v := .int .u64 (now + 1)) (by kernel_rfl)) (hS.pick [6]) ?_
          refine K.DW.l 14 rfl (by kernel_rfl) (by kernel_rfl) (K.OW.q rfl (K.QR.k (v := .int .u8 now) (by kernel_rfl)) ?_)
          refine ⟨.inl (hS.pick [6]), ?_⟩
          refine K.DW.l 15 rfl (by kernel_rfl) (by kernel_rfl) (K.OW.q rfl (K.QR.nice (v := .int .u64 (IntKind.u64.wrap now)) (by kernel_rfl) (congrArg (Value.int .u64) (IntWalk.u64_in _ (by omega)))) ?_)
          refine ⟨.inl (hS.pick [6]), ?_⟩
          refine K.DW.l 16 rfl (by kernel_rfl) (by kernel_rfl) (K.OW.q rfl (K.QR.nu64 ((now : Int) + (1 : Int)) ((now : Int) + (1 : Int)) (by kernel_rfl) (by omega)) ?_)
          refine ⟨.inl (hS.pick [6]), ?_⟩
          refine K.DW.l 17 rfl (by kernel_rfl) (by kernel_rfl) (K.OW.q rfl (K.QR.nice (v := .bool (((now + 1) : Int) == ((now : Int) + (1 : Int) : Int))) (by kernel_rfl) (congrArg Value.bool (beq_iff_eq.2 (rfl)))) ?_)
          refine ⟨.inl (hS.pick [6]), ?_⟩
          refine K.DW.l 18 rfl (by kernel_rfl) rfl (K.OW.q rfl (K.QR.k (v := .bool true) (by kernel_rfl)) ?_)
          refine ⟨.inl (hS.pick [6]), ?_⟩
          refine K.DW.l 19 rfl (by kernel_rfl) rfl (K.OW.q rfl (K.QR.k (v := .bool true) (by kernel_rfl)) ?_)
          refine ⟨.inl (hS.pick [6]), ?_⟩
          refine K.DW.q 20 (by kernel_rfl) rfl rfl (by kernel_rfl) (by kernel_rfl) (fun w hS => K.QR.k (v := .pointer (some ⟨p_75, 0, none⟩)) (by kernel_rfl)) (hS.pick [6]) ?_
          refine K.DW.q 22 (by kernel_rfl) rfl rfl (by kernel_rfl) (by kernel_rfl) (fun w hS => K.QR.k (v := .int .i64 M0.clock) (by kernel_rfl)) (hS.pick [6]) ?_
          refine K.DW.q 23 (by kernel_rfl) rfl rfl (by kernel_rfl) (by kernel_rfl) (fun w hS => K.QR.k (v := .pointer (some ⟨r_1, 0, none⟩)) (by kernel_rfl)) (hS.pick [6]) ?_
          refine K.DW.q 24 (by kernel_rfl) rfl rfl (by kernel_rfl) (by kernel_rfl) (fun w hS => K.QR.ld1 (v := .int .i64 c.th) rfl rfl (by kernel_rfl) ((hS.blk 0 rfl hg_3).cell rfl)) (hS.pick [6]) ?_
          refine K.DW.q 25 (by kernel_rfl) rfl rfl (by kernel_rfl) (by kernel_rfl) (fun w hS => K.QR.n64 ((M0.clock : Int) + (c.th : Int)) ((M0.clock : Int) + (c.th : Int)) (by kernel_rfl) (by omega)) (hS.pick [6]) ?_
          refine K.DW.q 26 (by kernel_rfl) rfl rfl (by kernel_rfl) (by kernel_rfl) (fun w hS => K.QR.n64 (((M0.clock : Int) + (c.th : Int) : Int) + (2 : Int)) (((M0.clock : Int) + (c.th : Int) : Int) + (2 : Int)) (by kernel_rfl) (by omega)) (hS.pick [6]) ?_
          refine K.DW.l 21 rfl (by kernel_rfl) (by kernel_rfl) (K.OW.gcall hS [1] [0, 2, 3, 4, 5, 6, 7] [.pointer (some ⟨p_75, 0, none⟩)] (mClock_ok _ _ _ _ _ _ _ x_96 ) ?_)
          clear hS; rintro _ _ w ⟨rfl, rfl⟩ hS
          replace hS : K.Sat w0 [l1, g1, o1, gl_79, m_81, b7, g_2, fr] w := hS
          refine ⟨.inl (hS.pick [6]), ?_⟩
          refine K.DW.l 27 rfl (by kernel_rfl) (by kernel_rfl) (K.OW.q rfl (K.QR.nice (v := .bool ((M.clock : Int) == (((M0.clock : Int) + (c.th : Int) : Int) + (2 : Int) : Int))) (by kernel_rfl) (congrArg Value.bool (beq_iff_eq.2 (by have h := hfin.2.2.2; omega)))) ?_)
          refine ⟨.inl (hS.pick [6]), ?_⟩
          refine K.DW.l 28 rfl (by kernel_rfl) rfl (K.OW.q rfl (K.QR.k (v := .bool true) (by kernel_rfl)) ?_)
          refine ⟨.inl (hS.pick [6]), ?_⟩
          refine K.DW.l 29 rfl (by kernel_rfl) rfl (K.OW.q rfl (K.QR.k (v := .bool true) (by kernel_rfl)) ?_)
          refine ⟨.inl (hS.pick [6]), ?_⟩
          refine K.DW.done (by kernel_rfl) ?_
          refine K.t (K.r (K.u ?_))
          refine ⟨.inr rfl, rfl, (.bool true), K.res1 rfl rfl, [], ?_, hS.pick [7]⟩
          exact rfl
  ·
   refine K.yn (((xs.length : Nat) : Int) : Int) (c.th : Int) h_12 ?_
   refine K.q [.bool true] (K.z (K.t (K.h (K.s (K.g ?_)))))
   refine K.l (K.OW.gcall hS [] [0, 1] [] (awake10_ok _) ?_)
   clear hS; rintro _ _ w ⟨rfl, rfl⟩ hS
   replace hS : K.Sat w0 [g_2, fr] w := hS
   refine K.q [.bool true] (K.z (K.t (K.r (K.u ?_))))
   refine ⟨.inr rfl, rfl, (.bool true), K.res1 rfl rfl, [], ?_, hS.pick [1]⟩
   exact rfl
 ·
  replace hS : K.Sat w0 [g_2, fr] w := hS
  refine K.q [.bool true, .bool true] ?_
  refine K.RW.skip rfl (by kernel_rfl) ?_
  refine K.RW.skip rfl (by kernel_rfl) ?_
  refine K.RW.skip rfl (by kernel_rfl) ?_
  refine K.RW.skip rfl (by kernel_rfl) ?_
  refine K.RW.skip rfl (by kernel_rfl) ?_
  refine K.q [.bool true] (K.z (K.t (K.h (K.s (K.g ?_)))))
  refine K.l (K.OW.gcall hS [] [0, 1] [] (awake10_ok _) ?_)
  clear hS; rintro _ _ w ⟨rfl, rfl⟩ hS
  replace hS : K.Sat w0 [g_2, fr] w := hS
  refine K.q [.bool true] (K.z (K.t (K.r (K.u ?_))))
  refine ⟨.inr rfl, rfl, (.bool true), K.res1 rfl rfl, [], ?_, hS.pick [1]⟩
  exact rfl

end Go.Proofs.Ytajkickofkeemaa
