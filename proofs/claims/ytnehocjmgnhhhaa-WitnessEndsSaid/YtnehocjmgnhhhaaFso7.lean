import Derived.Test.YtnehocjmgnhhhaaFso6
import Derived.Test.YtnehocjmgnhhhaaKn
/- Witness: the sort: merging. -/
namespace Go.Proofs.Ytnehocjmgnhhhaa
open Go.RowKit
set_option linter.unusedVariables false
attribute [local irreducible] K.KW K.RW K.DW K.OW K.QR K.KC
theorem srchP.end_ {pr : Nat → Prop} {lo hi i j : Nat} (h : srchP pr lo hi i j) (hn : ¬ (((i : Nat) : Int) < ((j : Nat) : Int))) : srchP pr lo hi i i := by
 have := h.2.1
 obtain rfl : i = j := by omega
 exact h
theorem rotR.none {P : List Int} {a m b : Nat} (h : a = m ∨ m = b) : rotR P P a m b := by
 rcases h with h | h
 ·subst h; exact rotR.nil1
 ·subst h; exact rotR.nil2
set_option maxHeartbeats 16000000 in
set_option maxRecDepth 100000 in
theorem sym_step (w0 : World) (dp : Option Addr) (cp nn : Nat) (hP1 : nn ≤ 1000000) (bc : Nat) (gc : K.Cs) (a : Option Addr) (cap : Nat) (L : List CallM) (hm : L.length ≤ 1000000) (hgc : gc = [K.pt bc 22 [.slice a L.length cap]]) (gx : K.Cs) (hx : ∀ w, K.Sat w0 [gx] w → K.RowE w a L.length 11 (fun i => cCall (L.getD i call0)))(f : Nat) (IH : ∀ (P : List Int) (gd : K.Cs) (a0 m0 b0 : Nat), P.length = nn → K.OwnG gd 3 1 dp nn cp (P.flatMap cI64) → a0 < m0 → m0 < b0 → b0 ≤ nn → b0 - a0 < f → valP L P → stbP L P → srtP L P a0 m0 → srtP L P m0 b0 → K.GC Try.prog w0 53 #[.slice dp nn cp, K.iv ((a0 : Nat) : Int), K.iv ((m0 : Nat) : Int), K.iv ((b0 : Nat) : Int), .func (.func 24) [].toArray [K.pa bc].toArray] [gd, gc, gx] (fun v post => ∃ gd' Q, post = [gd', gc, gx] ∧ K.OwnG gd' 3 1 dp nn cp (Q.flatMap cI64) ∧ keepP L P Q a0 b0 ∧ srtP L Q a0 b0)) (P : List Int) (gd : K.Cs) (a0 m0 b0 : Nat) (hnn : P.length = nn) (hd : K.OwnG gd 3 1 dp nn cp (P.flatMap cI64)) (ham : a0 < m0) (hmb : m0 < b0) (hb0 : b0 ≤ nn) (hbf : b0 - a0 < f + 1) (hv : valP L P) (hst : stbP L P) (h1 : srtP L P a0 m0) (h2 : srtP L P m0 b0) :
  K.GC Try.prog w0 53 #[.slice dp nn cp, K.iv ((a0 : Nat) : Int), K.iv ((m0 : Nat) : Int), K.iv ((b0 : Nat) : Int), .func (.func 24) [].toArray [K.pa bc].toArray] [gd, gc, gx] (fun v post => ∃ gd' Q, post = [gd', gc, gx] ∧ K.OwnG gd' 3 1 dp nn cp (Q.flatMap cI64) ∧ keepP L P Q a0 b0 ∧ srtP L Q a0 b0) := by
 refine K.GC.mk (n := 220) Try.func53 rfl rfl [.slice dp nn cp, K.iv ((a0 : Nat) : Int), K.iv ((m0 : Nat) : Int), K.iv ((b0 : Nat) : Int), .func (.func 24) [].toArray [K.pa bc].toArray] rfl rfl ?_
 intro fr w hS
 replace hS : K.Sat w0 [gd, gc, gx, fr] w := hS
 refine K.s (K.s (K.g (K.q [K.iv ((m0 : Nat) : Int), K.iv ((a0 : Nat) : Int)] ?_)))
 refine K.a (K.QR.n64 ((((m0 : Nat) : Int) : Int) - (((a0 : Nat) : Int) : Int)) ((((m0 : Nat) : Int) : Int) - (((a0 : Nat) : Int) : Int)) (by kernel_rfl) (by omega)) ?_
 by_cases h_1 : ((((m0 : Nat) : Int) : Int) - (((a0 : Nat) : Int) : Int) : Int) = (1 : Int)
 ·
  refine K.ye ((((m0 : Nat) : Int) : Int) - (((a0 : Nat) : Int) : Int) : Int) (1 : Int) h_1 ?_
  refine K.z (K.t (K.h (K.s (K.g (K.q [K.iv ((m0 : Nat) : Int), K.iv ((m0 : Nat) : Int)] (K.z (K.t (K.s (K.g (K.q [K.iv ((b0 : Nat) : Int), K.iv ((b0 : Nat) : Int)] (K.z (K.t (K.s ?_)))))))))))))
  refine K.KW.block ?_
  refine K.KW.loop (fun m_ F_ w_ => ∃ (i : Nat) (j : Nat), m_ = j - i ∧ K.Sl F_ [(0, .slice dp nn cp), (1, K.iv ((a0 : Nat) : Int)), (2, K.iv ((m0 : Nat) : Int)), (3, K.iv ((b0 : Nat) : Int)), (4, .func (.func 24) [].toArray [K.pa bc].toArray), (10, K.iv ((i : Nat) : Int)), (11, K.iv ((j : Nat) : Int)), (220, undef)] ∧ srchP (prA L P a0) m0 b0 i j ∧ K.Sat w0 [gd, gc, gx, fr] w_) ((fun (i : Nat) (j : Nat) => j - i) m0 b0) ?_ ?_
  ·
   exact ⟨m0, b0, rfl, ⟨by rfl, by rfl, by rfl, by rfl, by rfl, by rfl, by rfl, by rfl, trivial⟩, (srchP.nil (by omega)), hS.pick [0, 1, 2, 3]⟩
  ·
   clear hS
   intro m_2 F_3 w hI
   obtain ⟨i, j, rfl, sl_4, hf, hS⟩ := hI
   rw [← K.Sl.puts sl_4]; clear sl_4
   have hfb := hf.1
   have hfc := hf.2.1
   have hfd := hf.2.2.1
   refine K.s (K.s (K.g (K.q [K.iv ((i : Nat) : Int), K.iv ((j : Nat) : Int)] ?_)))
   by_cases h_5 : (((i : Nat) : Int) : Int) < (((j : Nat) : Int) : Int)
   ·
    refine K.y ((((i : Nat) : Int) : Int) < (((j : Nat) : Int) : Int)) h_5 ?_
    refine K.z (K.t (K.h (K.k (K.t ?_))))
    refine K.KW.block ?_
    refine K.s (K.g (K.q [K.iv ((i : Nat) : Int), K.iv ((j : Nat) : Int)] ?_))
    refine K.a (K.QR.n64 ((((i : Nat) : Int) : Int) + (((j : Nat) : Int) : Int)) ((i + j : Nat) : Int) (by kernel_rfl) (by omega)) ?_
    refine K.a (K.QR.nice (v := .int .u64 (IntKind.u64.wrap ((i + j : Nat) : Int))) (by kernel_rfl) (congrArg (Value.int .u64) (IntWalk.u64_in _ (by omega)))) ?_
    refine K.a (K.QR.turn (v := .int .u64 ((((i + j : Nat) : Int) : Int) / 2 ^ (1))) (K.QR.shr (m := 1) rfl rfl rfl (by show _ ≤ 64; omega) (by omega)) (congrArg (Value.int .u64) (show ((((i + j : Nat) : Int) : Int) / 2 ^ (1) : Int) = ((((i + j) / 2 : Nat) : Int) : Int) from by omega))) ?_
    refine K.a (K.QR.nice (v := K.iv (IntKind.i64.wrap (((i + j) / 2 : Nat) : Int))) (by kernel_rfl) (congrArg (Value.int .i64) (IntWalk.i64_in _ (by omega)))) ?_
    refine K.q [K.iv (((i + j) / 2 : Nat) : Int)] (K.z (K.t (K.s ?_)))
    have hvx_6 := hv ((i + j) / 2) (by omega)
    have hvx_7 := hv (a0) (by omega)
    obtain ⟨b_8, rfl⟩ := hd.some_ (by have := hd.le; omega)
    refine K.KW.gdrawn [0] hS (by kernel_rfl) ?_
    clear hS; intro w hS
    refine K.p 0 rfl (.func (.func 24) [].toArray [K.pa bc].toArray) (hS.pick [0]) ?_
    refine K.p 1 rfl (.slice (some ⟨b_8, 0, none⟩) nn cp) (hS.pick [0]) ?_
    refine K.p 2 rfl (K.iv (((i + j) / 2 : Nat) : Int)) (hS.pick [0]) ?_
    refine K.m 3 rfl (fun w hS => K.QR.ix ((i + j) / 2) 1 rfl rfl rfl Try.underlying23 (by kernel_rfl) (by omega) (by first | (simp; done) | omega | (simp; omega))) (hS.pick [0]) ?_
    refine K.o_ 4 rfl (K.iv (P.getD ((i + j) / 2) 0)) (fun w hS => (K.Own.atS (c := cI64) (d := 0) (fun _ => rfl) (hS.ownr 0 rfl hd) hnn ((i + j) / 2) (by omega))) (hS.pick [0]) ?_
    refine K.p 5 rfl (.slice (some ⟨b_8, 0, none⟩) nn cp) (hS.pick [0]) ?_
    refine K.b 6 rfl (K.iv ((a0 : Nat) : Int)) (hS.pick [0]) ?_
    refine K.c 7 rfl (K.QR.ix a0 1 rfl rfl rfl Try.underlying23 (by kernel_rfl) (by omega) (by first | (simp; done) | omega | (simp; omega))) (hS.pick [0]) ?_
    refine K.c 8 rfl (K.QR.ld1 (v := K.iv (P.getD a0 0)) rfl rfl (by kernel_rfl) (K.Own.atS (c := cI64) (d := 0) (fun _ => rfl) (hS.ownr 0 rfl hd) hnn a0 (by omega))) (hS.pick [0]) ?_
    refine K.DW.l 9 rfl (by kernel_rfl) rfl (K.OW.gcallw hS [1, 2] [0, 3] [K.iv (P.getD ((i + j) / 2) 0), K.iv (P.getD a0 0), K.pa bc] (order1_ok _ _ _ _ _ L (by omega) hgc _ hx (P.getD ((i + j) / 2) 0) (P.getD a0 0) (by omega) (by omega)) ?_)
    clear hS; rintro _ _ w ⟨rfl, rfl⟩ hS
    replace hS : K.Sat w0 [gc, gx, gd, fr] w := hS
    refine ⟨.inl (hS.pick [2]), ?_⟩
    by_cases h_10 : ((cmpI (keyL L (P.getD ((i + j) / 2) 0)) (keyL L (P.getD a0 0))) : Int) < (0 : Int)
    ·
     refine K.c 10 rfl (K.QR.nice (v := .bool (decide (((cmpI (keyL L (P.getD ((i + j) / 2) 0)) (keyL L (P.getD a0 0))) : Int) < (0 : Int)))) (by kernel_rfl) (congrArg Value.bool (decide_eq_true h_10))) (hS.pick [2]) ?_
     refine K.DW.done (by kernel_rfl) ?_
     refine K.t (K.h (K.g (K.q [K.iv (((i + j) / 2 : Nat) : Int)] ?_)))
     refine K.a (K.QR.n64 (((((i + j) / 2 : Nat) : Int) : Int) + (1 : Int)) (((i + j) / 2 + 1 : Nat) : Int) (by kernel_rfl) (by omega)) ?_
     refine K.q [K.iv (((i + j) / 2 + 1 : Nat) : Int)] (K.z ?_)
     refine K.blk_normal ?_
     refine K.t ?_
     refine ⟨_, ?_, (i + j) / 2 + 1, j, rfl, ⟨by rfl, by rfl, by rfl, by rfl, by rfl, by rfl, by rfl, by rfl, trivial⟩, (hf.yes (prA_down h2) (by omega) h_10), hS.pick [2, 0, 1, 3]⟩
     omega
    ·
     refine K.c 10 rfl (K.QR.nice (v := .bool (decide (((cmpI (keyL L (P.getD ((i + j) / 2) 0)) (keyL L (P.getD a0 0))) : Int) < (0 : Int)))) (by kernel_rfl) (congrArg Value.bool (decide_eq_false h_10))) (hS.pick [2]) ?_
     refine K.DW.done (by kernel_rfl) ?_
     refine K.t (K.f (K.g (K.q [K.iv (((i + j) / 2 : Nat) : Int), K.iv (((i + j) / 2 : Nat) : Int)] (K.z ?_))))
     refine K.blk_normal ?_
     refine K.t ?_
     refine ⟨_, ?_, i, (i + j) / 2, rfl, ⟨by rfl, by rfl, by rfl, by rfl, by rfl, by rfl, by rfl, by rfl, trivial⟩, (hf.no (prA_down h2) (by omega) h_10), hS.pick [2, 0, 1, 3]⟩
     omega
   ·
    refine K.x ((((i : Nat) : Int) : Int) < (((j : Nat) : Int) : Int)) h_5 ?_
    refine K.z (K.t (K.f ?_))
    refine K.KW.exit ?_
    refine K.thn_exit ?_
    refine K.thn_exit ?_
    refine K.blk_hit ?_
    refine K.t (K.s (K.s (K.g (K.q [K.iv ((a0 : Nat) : Int), K.iv ((a0 : Nat) : Int)] (K.z (K.t ?_))))))
    refine K.KW.block ?_
    refine K.KW.loop (fun m_ F_ w_ => ∃ (k : Nat) (Q1 : List Int) (d1 : K.Cs), m_ = i - k ∧ K.Sl F_ [(0, .slice dp nn cp), (1, K.iv ((a0 : Nat) : Int)), (2, K.iv ((m0 : Nat) : Int)), (3, K.iv ((b0 : Nat) : Int)), (4, .func (.func 24) [].toArray [K.pa bc].toArray), (10, K.iv ((i : Nat) : Int)), (13, K.iv ((k : Nat) : Int)), (220, undef)] ∧ (a0 ≤ k ∧ k + 1 ≤ i) ∧ bubR L P Q1 a0 k ∧ K.OwnG d1 3 1 dp nn cp ((Q1).flatMap cI64) ∧ K.Sat w0 [d1, gc, gx, fr] w_) ((fun (k : Nat) (Q1 : List Int) => i - k) a0 P) ?_ ?_
    ·
     exact ⟨a0, P, gd, rfl, ⟨by rfl, by rfl, by rfl, by rfl, by rfl, by rfl, by rfl, by rfl, trivial⟩, (by have := hf.1; omega), (bubR.nil hv hst), hd, hS.pick [0, 1, 2, 3]⟩
    ·
     clear hS
     intro m_11 F_12 w hI
     obtain ⟨k, Q1, d1, rfl, sl_13, p_14, hbu, x_15, hS⟩ := hI
     rw [← K.Sl.puts sl_13]; clear sl_13
     have hfd := hf.2.2.1
     have hfc := hf.2.1
     refine K.s (K.s (K.g (K.q [K.iv ((k : Nat) : Int), K.iv ((i : Nat) : Int)] ?_)))
     refine K.a (K.QR.turn (v := K.iv ((i - 1 : Nat) : Int)) (K.QR.n64 ((((i : Nat) : Int) : Int) - (1 : Int)) ((i - 1 : Nat) : Int) (by kernel_rfl) (by omega)) (congrArg (Value.int .i64) (show (((i - 1 : Nat) : Int) : Int) = (((i - 1 : Nat) : Int) : Int) from by omega))) ?_
     by_cases h_16 : (((k : Nat) : Int) : Int) < (((i - 1 : Nat) : Int) : Int)
     ·
      refine K.y ((((k : Nat) : Int) : Int) < (((i - 1 : Nat) : Int) : Int)) h_16 ?_
      refine K.z (K.t (K.h (K.k (K.t (K.s ?_)))))
      refine K.KW.block ?_
      have hQl := hbu.1.1
      obtain ⟨b_17, rfl⟩ := x_15.some_ (by have := x_15.le; omega)
      refine K.KW.gdrawnM [0] [15, 17] hS (by kernel_rfl) ?_
      clear hS; intro w hS
      refine K.DWM.k 0 (by kernel_rfl) rfl rfl (by kernel_rfl) (by kernel_rfl) rfl (fun w => K.QR.k (v := .slice (some ⟨b_17, 0, none⟩) nn cp) (by kernel_rfl)) (.inl (hS.pick [0])) ?_
      refine K.DWM.k 1 (by kernel_rfl) rfl rfl (by kernel_rfl) (by kernel_rfl) rfl (fun w => K.QR.k (v := K.iv ((k : Nat) : Int)) (by kernel_rfl)) (.inl (hS.pick [0])) ?_
      refine K.DWM.k 2 (by kernel_rfl) rfl rfl (by kernel_rfl) (by kernel_rfl) rfl (fun w => K.QR.k (v := .slice (some ⟨b_17, 0, none⟩) nn cp) (by kernel_rfl)) (.inl (hS.pick [0])) ?_
      refine K.DWM.k 3 (by kernel_rfl) rfl rfl (by kernel_rfl) (by kernel_rfl) rfl (fun w => K.QR.k (v := K.iv ((k : Nat) : Int)) (by kernel_rfl)) (.inl (hS.pick [0])) ?_
      refine K.DWM.k 4 (by kernel_rfl) rfl rfl (by kernel_rfl) (by kernel_rfl) rfl (fun w => K.QR.n64 ((((k : Nat) : Int) : Int) + (1 : Int)) ((k + 1 : Nat) : Int) (by kernel_rfl) (by omega)) (.inl (hS.pick [0])) ?_
      refine K.DWM.k 5 (by kernel_rfl) rfl rfl (by kernel_rfl) (by kernel_rfl) rfl (fun w => K.QR.k (v := .slice (some ⟨b_17, 0, none⟩) nn cp) (by kernel_rfl)) (.inl (hS.pick [0])) ?_
      refine K.DWM.k 6 (by kernel_rfl) rfl rfl (by kernel_rfl) (by kernel_rfl) rfl (fun w => K.QR.k (v := K.iv ((k : Nat) : Int)) (by kernel_rfl)) (.inl (hS.pick [0])) ?_
      refine K.DWM.k 7 (by kernel_rfl) rfl rfl (by kernel_rfl) (by kernel_rfl) rfl (fun w => K.QR.n64 ((((k : Nat) : Int) : Int) + (1 : Int)) ((k + 1 : Nat) : Int) (by kernel_rfl) (by omega)) (.inl (hS.pick [0])) ?_
      refine K.DWM.k 8 (by kernel_rfl) rfl rfl (by kernel_rfl) (by kernel_rfl) rfl (fun w => K.QR.ix (k + 1) 1 rfl rfl rfl Try.underlying23 (by kernel_rfl) (by omega) (by first | (simp; done) | omega | (simp; omega))) (.inl (hS.pick [0])) ?_
      refine K.DWM.q 9 (by kernel_rfl) rfl rfl (by kernel_rfl) (by kernel_rfl) (by kernel_rfl) rfl (fun w hS => K.QR.ld1 (v := K.iv (Q1.getD (k + 1) 0)) rfl rfl (by kernel_rfl) (K.Own.atS (c := cI64) (d := 0) (fun _ => rfl) (hS.ownr 0 rfl x_15) (hbu.1.1.trans hnn) (k + 1) (by omega))) (hS.pick [0]) ?_
      refine K.DWM.k 10 (by kernel_rfl) rfl rfl (by kernel_rfl) (by kernel_rfl) rfl (fun w => K.QR.k (v := .slice (some ⟨b_17, 0, none⟩) nn cp) (by kernel_rfl)) (.inl (hS.pick [0])) ?_
      refine K.DWM.k 11 (by kernel_rfl) rfl rfl (by kernel_rfl) (by kernel_rfl) rfl (fun w => K.QR.k (v := K.iv ((k : Nat) : Int)) (by kernel_rfl)) (.inl (hS.pick [0])) ?_
      refine K.DWM.k 12 (by kernel_rfl) rfl rfl (by kernel_rfl) (by kernel_rfl) rfl (fun w => K.QR.ix k 1 rfl rfl rfl Try.underlying23 (by kernel_rfl) (by omega) (by first | (simp; done) | omega | (simp; omega))) (.inl (hS.pick [0])) ?_
      refine K.DWM.q 13 (by kernel_rfl) rfl rfl (by kernel_rfl) (by kernel_rfl) (by kernel_rfl) rfl (fun w hS => K.QR.ld1 (v := K.iv (Q1.getD k 0)) rfl rfl (by kernel_rfl) (K.Own.atS (c := cI64) (d := 0) (fun _ => rfl) (hS.ownr 0 rfl x_15) (hbu.1.1.trans hnn) k (by omega))) (hS.pick [0]) ?_
      refine K.DWM.k 14 (by kernel_rfl) rfl rfl (by kernel_rfl) (by kernel_rfl) rfl (fun w => K.QR.ix k 1 rfl rfl rfl Try.underlying23 (by kernel_rfl) (by omega) (by first | (simp; done) | omega | (simp; omega))) (.inl (hS.pick [0])) ?_
      refine K.DWM.l 15 rfl (by kernel_rfl) (by kernel_rfl) rfl (K.OW.grst 0 k [K.iv (Q1.getD (k + 1) 0)] (((Q1.set k (Q1.getD (k + 1) 0))).flatMap cI64) hS x_15 ?_ (by show _ + 1 ≤ _; omega) (K.set1 (c := cI64) Q1 k (Q1.getD (k + 1) 0) (by have := (hbu.1.1.trans hnn); omega)))
      clear hS; intro w l_19 o_20 hS
      have ln_21 : ((Q1.set k (Q1.getD (k + 1) 0))).length = _ := (List.length_set).trans (hbu.1.1.trans hnn)
      replace hS : K.Sat w0 [l_19, gc, gx, fr] w := hS
      refine K.DWM.k 16 (by kernel_rfl) rfl rfl (by kernel_rfl) (by kernel_rfl) rfl (fun w => K.QR.ix (k + 1) 1 rfl rfl rfl Try.underlying23 (by kernel_rfl) (by omega) (by first | (simp; done) | omega | (simp; omega))) (.inr (by kernel_rfl)) ?_
      refine K.DWM.l 17 rfl (by kernel_rfl) (by kernel_rfl) rfl (K.OW.grst 0 (k + 1) [K.iv (Q1.getD k 0)] ((((Q1.set k (Q1.getD (k + 1) 0)).set (k + 1) (Q1.getD k 0))).flatMap cI64) hS o_20 ?_ (by show _ + 1 ≤ _; omega) (K.set1 (c := cI64) (Q1.set k (Q1.getD (k + 1) 0)) (k + 1) (Q1.getD k 0) (by have := ln_21; omega)))
      clear hS; intro w l_22 o_23 hS
      have ln_24 : (((Q1.set k (Q1.getD (k + 1) 0)).set (k + 1) (Q1.getD k 0))).length = _ := (List.length_set).trans ln_21
      replace hS : K.Sat w0 [l_22, gc, gx, fr] w := hS
      refine K.DWM.done (by kernel_rfl) ?_
      refine K.blk_normal ?_
      refine K.t (K.g (K.q [K.iv ((k : Nat) : Int)] ?_))
      refine K.a (K.QR.n64 ((((k : Nat) : Int) : Int) + (1 : Int)) ((k + 1 : Nat) : Int) (by kernel_rfl) (by omega)) ?_
      refine K.q [K.iv ((k + 1 : Nat) : Int)] (K.z (K.t ?_))
      refine ⟨_, ?_, k + 1, ((Q1.set k (Q1.getD (k + 1) 0)).set (k + 1) (Q1.getD k 0)), l_22, rfl, ⟨by rfl, by rfl, by rfl, by rfl, by rfl, by rfl, by rfl, by rfl, trivial⟩, (by omega), (hbu.step (by have := hf.2.2.1; have := hf.2.1; omega) (by omega) (cmpI_lt.1 (hf.2.2.2.1 (k + 1) (by omega) (by omega)))), o_23, hS.pick [0, 1, 2, 3]⟩
      omega
     ·
      refine K.x ((((k : Nat) : Int) : Int) < (((i - 1 : Nat) : Int) : Int)) h_16 ?_
      refine K.z (K.t (K.f ?_))
      refine K.KW.exit ?_
      refine K.thn_exit ?_
      refine K.thn_exit ?_
      refine K.blk_hit ?_
      refine K.t (K.r (K.u ?_))
      refine ⟨.inr rfl, rfl, (.tuple #[]), K.res0 rfl, [d1, gc, gx], ?_, hS.pick [0, 1, 2, 3]⟩
      obtain ⟨hz1, hz2⟩ := hbu.fin (b := b0) (by rw [show a0 + 1 = m0 by omega]; exact h2) (by omega) (by rw [show a0 + 1 = m0 by omega]; exact hf.end_ h_5) (by omega) (by omega)
      exact ⟨_, _, rfl, x_15, hz1, hz2⟩
 ·
  refine K.xe ((((m0 : Nat) : Int) : Int) - (((a0 : Nat) : Int) : Int) : Int) (1 : Int) h_1 ?_
  refine K.z (K.t (K.f (K.k (K.t (K.s (K.s (K.g (K.q [K.iv ((b0 : Nat) : Int), K.iv ((m0 : Nat) : Int)] ?_))))))))
  refine K.a (K.QR.n64 ((((b0 : Nat) : Int) : Int) - (((m0 : Nat) : Int) : Int)) ((((b0 : Nat) : Int) : Int) - (((m0 : Nat) : Int) : Int)) (by kernel_rfl) (by omega)) ?_
  by_cases h_25 : ((((b0 : Nat) : Int) : Int) - (((m0 : Nat) : Int) : Int) : Int) = (1 : Int)
  ·
   refine K.ye ((((b0 : Nat) : Int) : Int) - (((m0 : Nat) : Int) : Int) : Int) (1 : Int) h_25 ?_
   refine K.z (K.t (K.h (K.s (K.g (K.q [K.iv ((a0 : Nat) : Int), K.iv ((a0 : Nat) : Int)] (K.z (K.t (K.s (K.g (K.q [K.iv ((m0 : Nat) : Int), K.iv ((m0 : Nat) : Int)] (K.z (K.t (K.s ?_)))))))))))))
   refine K.KW.block ?_
   refine K.KW.loop (fun m_ F_ w_ => ∃ (i : Nat) (j : Nat), m_ = j - i ∧ K.Sl F_ [(0, .slice dp nn cp), (1, K.iv ((a0 : Nat) : Int)), (2, K.iv ((m0 : Nat) : Int)), (3, K.iv ((b0 : Nat) : Int)), (4, .func (.func 24) [].toArray [K.pa bc].toArray), (14, K.iv ((i : Nat) : Int)), (15, K.iv ((j : Nat) : Int)), (220, undef)] ∧ srchP (prB L P m0) a0 m0 i j ∧ K.Sat w0 [gd, gc, gx, fr] w_) ((fun (i : Nat) (j : Nat) => j - i) a0 m0) ?_ ?_
   ·
    exact ⟨a0, m0, rfl, ⟨by rfl, by rfl, by rfl, by rfl, by rfl, by rfl, by rfl, by rfl, trivial⟩, (srchP.nil (by omega)), hS.pick [0, 1, 2, 3]⟩
   ·
    clear hS
    intro m_26 F_27 w hI
    obtain ⟨i, j, rfl, sl_28, hf, hS⟩ := hI
    rw [← K.Sl.puts sl_28]; clear sl_28
    have hfb := hf.1
    have hfc := hf.2.1
    have hfd := hf.2.2.1
    refine K.s (K.s (K.g (K.q [K.iv ((i : Nat) : Int), K.iv ((j : Nat) : Int)] ?_)))
    by_cases h_29 : (((i : Nat) : Int) : Int) < (((j : Nat) : Int) : Int)
    ·
     refine K.y ((((i : Nat) : Int) : Int) < (((j : Nat) : Int) : Int)) h_29 ?_
     refine K.z (K.t (K.h (K.k (K.t ?_))))
     refine K.KW.block ?_
     refine K.s (K.g (K.q [K.iv ((i : Nat) : Int), K.iv ((j : Nat) : Int)] ?_))
     refine K.a (K.QR.n64 ((((i : Nat) : Int) : Int) + (((j : Nat) : Int) : Int)) ((i + j : Nat) : Int) (by kernel_rfl) (by omega)) ?_
     refine K.a (K.QR.nice (v := .int .u64 (IntKind.u64.wrap ((i + j : Nat) : Int))) (by kernel_rfl) (congrArg (Value.int .u64) (IntWalk.u64_in _ (by omega)))) ?_
     refine K.a (K.QR.turn (v := .int .u64 ((((i + j : Nat) : Int) : Int) / 2 ^ (1))) (K.QR.shr (m := 1) rfl rfl rfl (by show _ ≤ 64; omega) (by omega)) (congrArg (Value.int .u64) (show ((((i + j : Nat) : Int) : Int) / 2 ^ (1) : Int) = ((((i + j) / 2 : Nat) : Int) : Int) from by omega))) ?_
     refine K.a (K.QR.nice (v := K.iv (IntKind.i64.wrap (((i + j) / 2 : Nat) : Int))) (by kernel_rfl) (congrArg (Value.int .i64) (IntWalk.i64_in _ (by omega)))) ?_
     refine K.q [K.iv (((i + j) / 2 : Nat) : Int)] (K.z (K.t (K.s ?_)))
     have hvx_30 := hv ((i + j) / 2) (by omega)
     have hvx_31 := hv (m0) (by omega)
     obtain ⟨b_32, rfl⟩ := hd.some_ (by have := hd.le; omega)
     refine K.KW.gdrawn [0] hS (by kernel_rfl) ?_
     clear hS; intro w hS
     refine K.p 0 rfl (.func (.func 24) [].toArray [K.pa bc].toArray) (hS.pick [0]) ?_
     refine K.p 1 rfl (.slice (some ⟨b_32, 0, none⟩) nn cp) (hS.pick [0]) ?_
     refine K.p 2 rfl (K.iv ((m0 : Nat) : Int)) (hS.pick [0]) ?_
     refine K.m 3 rfl (fun w hS => K.QR.ix m0 1 rfl rfl rfl Try.underlying23 (by kernel_rfl) (by omega) (by first | (simp; done) | omega | (simp; omega))) (hS.pick [0]) ?_
     refine K.o_ 4 rfl (K.iv (P.getD m0 0)) (fun w hS => (K.Own.atS (c := cI64) (d := 0) (fun _ => rfl) (hS.ownr 0 rfl hd) hnn m0 (by omega))) (hS.pick [0]) ?_
     refine K.p 5 rfl (.slice (some ⟨b_32, 0, none⟩) nn cp) (hS.pick [0]) ?_
     refine K.b 6 rfl (K.iv (((i + j) / 2 : Nat) : Int)) (hS.pick [0]) ?_
     refine K.c 7 rfl (K.QR.ix ((i + j) / 2) 1 rfl rfl rfl Try.underlying23 (by kernel_rfl) (by omega) (by first | (simp; done) | omega | (simp; omega))) (hS.pick [0]) ?_
     refine K.c 8 rfl (K.QR.ld1 (v := K.iv (P.getD ((i + j) / 2) 0)) rfl rfl (by kernel_rfl) (K.Own.atS (c := cI64) (d := 0) (fun _ => rfl) (hS.ownr 0 rfl hd) hnn ((i + j) / 2) (by omega))) (hS.pick [0]) ?_
     refine K.DW.l 9 rfl (by kernel_rfl) rfl (K.OW.gcallw hS [1, 2] [0, 3] [K.iv (P.getD m0 0), K.iv (P.getD ((i + j) / 2) 0), K.pa bc] (order1_ok _ _ _ _ _ L (by omega) hgc _ hx (P.getD m0 0) (P.getD ((i + j) / 2) 0) (by omega) (by omega)) ?_)
     clear hS; rintro _ _ w ⟨rfl, rfl⟩ hS
     replace hS : K.Sat w0 [gc, gx, gd, fr] w := hS
     refine ⟨.inl (hS.pick [2]), ?_⟩
     by_cases h_34 : ((cmpI (keyL L (P.getD m0 0)) (keyL L (P.getD ((i + j) / 2) 0))) : Int) < (0 : Int)
     ·
      refine K.c 10 rfl (K.QR.nice (v := .bool (decide (((cmpI (keyL L (P.getD m0 0)) (keyL L (P.getD ((i + j) / 2) 0))) : Int) < (0 : Int)))) (by kernel_rfl) (congrArg Value.bool (decide_eq_true h_34))) (hS.pick [2]) ?_
      refine K.b 11 rfl (.bool false) (hS.pick [2]) ?_
      refine K.DW.done (by kernel_rfl) ?_
      refine K.t (K.f (K.g (K.q [K.iv (((i + j) / 2 : Nat) : Int), K.iv (((i + j) / 2 : Nat) : Int)] (K.z ?_))))
      refine K.blk_normal ?_
      refine K.t ?_
      refine ⟨_, ?_, i, (i + j) / 2, rfl, ⟨by rfl, by rfl, by rfl, by rfl, by rfl, by rfl, by rfl, by rfl, trivial⟩, (hf.no (prB_down h1) (by omega) (fun hh => hh h_34)), hS.pick [2, 0, 1, 3]⟩
      omega
     ·
      refine K.c 10 rfl (K.QR.nice (v := .bool (decide (((cmpI (keyL L (P.getD m0 0)) (keyL L (P.getD ((i + j) / 2) 0))) : Int) < (0 : Int)))) (by kernel_rfl) (congrArg Value.bool (decide_eq_false h_34))) (hS.pick [2]) ?_
      refine K.b 11 rfl (.bool true) (hS.pick [2]) ?_
      refine K.DW.done (by kernel_rfl) ?_
      refine K.t (K.h (K.g (K.q [K.iv (((i + j) / 2 : Nat) : Int)] ?_)))
      refine K.a (K.QR.n64 (((((i + j) / 2 : Nat) : Int) : Int) + (1 : Int)) (((i + j) / 2 + 1 : Nat) : Int) (by kernel_rfl) (by omega)) ?_
      refine K.q [K.iv (((i + j) / 2 + 1 : Nat) : Int)] (K.z ?_)
      refine K.blk_normal ?_
      refine K.t ?_
      refine ⟨_, ?_, (i + j) / 2 + 1, j, rfl, ⟨by rfl, by rfl, by rfl, by rfl, by rfl, by rfl, by rfl, by rfl, trivial⟩, (hf.yes (prB_down h1) (by omega) h_34), hS.pick [2, 0, 1, 3]⟩
      omega
    ·
     refine K.x ((((i : Nat) : Int) : Int) < (((j : Nat) : Int) : Int)) h_29 ?_
     refine K.z (K.t (K.f ?_))
     refine K.KW.exit ?_
     refine K.thn_exit ?_
     refine K.thn_exit ?_
     refine K.blk_hit ?_
     refine K.t (K.s (K.s (K.g (K.q [K.iv ((m0 : Nat) : Int), K.iv ((m0 : Nat) : Int)] (K.z (K.t ?_))))))
     refine K.KW.block ?_
     refine K.KW.loop (fun m_ F_ w_ => ∃ (k : Nat) (Q1 : List Int) (d1 : K.Cs), m_ = 2 * k ∧ K.Sl F_ [(0, .slice dp nn cp), (1, K.iv ((a0 : Nat) : Int)), (2, K.iv ((m0 : Nat) : Int)), (3, K.iv ((b0 : Nat) : Int)), (4, .func (.func 24) [].toArray [K.pa bc].toArray), (14, K.iv ((i : Nat) : Int)), (17, K.iv ((k : Nat) : Int)), (220, undef)] ∧ (i ≤ k ∧ k ≤ m0) ∧ bubL L P Q1 m0 k ∧ K.OwnG d1 3 1 dp nn cp ((Q1).flatMap cI64) ∧ K.Sat w0 [d1, gc, gx, fr] w_) ((fun (k : Nat) (Q1 : List Int) => 2 * k) m0 P) ?_ ?_
     ·
      exact ⟨m0, P, gd, rfl, ⟨by rfl, by rfl, by rfl, by rfl, by rfl, by rfl, by rfl, by rfl, trivial⟩, (by have := hf.2.2.1; have := hf.2.1; omega), (bubL.nil hv hst), hd, hS.pick [0, 1, 2, 3]⟩
     ·
      clear hS
      intro m_35 F_36 w hI
      obtain ⟨k, Q1, d1, rfl, sl_37, p_38, hbu, x_39, hS⟩ := hI
      rw [← K.Sl.puts sl_37]; clear sl_37
      refine K.s (K.s (K.g (K.q [K.iv ((k : Nat) : Int), K.iv ((i : Nat) : Int)] ?_)))
      by_cases h_40 : (((k : Nat) : Int) : Int) > (((i : Nat) : Int) : Int)
      ·
       refine K.y ((((k : Nat) : Int) : Int) > (((i : Nat) : Int) : Int)) h_40 ?_
       refine K.z (K.t (K.h (K.k (K.t (K.s ?_)))))
       refine K.KW.block ?_
       have hQl := hbu.1.1
       obtain ⟨b_41, rfl⟩ := x_39.some_ (by have := x_39.le; omega)
       refine K.KW.gdrawnM [0] [15, 17] hS (by kernel_rfl) ?_
       clear hS; intro w hS
       refine K.DWM.k 0 (by kernel_rfl) rfl rfl (by kernel_rfl) (by kernel_rfl) rfl (fun w => K.QR.k (v := .slice (some ⟨b_41, 0, none⟩) nn cp) (by kernel_rfl)) (.inl (hS.pick [0])) ?_
       refine K.DWM.k 1 (by kernel_rfl) rfl rfl (by kernel_rfl) (by kernel_rfl) rfl (fun w => K.QR.k (v := K.iv ((k : Nat) : Int)) (by kernel_rfl)) (.inl (hS.pick [0])) ?_
       refine K.DWM.k 2 (by kernel_rfl) rfl rfl (by kernel_rfl) (by kernel_rfl) rfl (fun w => K.QR.k (v := .slice (some ⟨b_41, 0, none⟩) nn cp) (by kernel_rfl)) (.inl (hS.pick [0])) ?_
       refine K.DWM.k 3 (by kernel_rfl) rfl rfl (by kernel_rfl) (by kernel_rfl) rfl (fun w => K.QR.k (v := K.iv ((k : Nat) : Int)) (by kernel_rfl)) (.inl (hS.pick [0])) ?_
       refine K.DWM.k 4 (by kernel_rfl) rfl rfl (by kernel_rfl) (by kernel_rfl) rfl (fun w => K.QR.turn (v := K.iv ((k - 1 : Nat) : Int)) (K.QR.n64 ((((k : Nat) : Int) : Int) - (1 : Int)) ((k - 1 : Nat) : Int) (by kernel_rfl) (by omega)) (congrArg (Value.int .i64) (show (((k - 1 : Nat) : Int) : Int) = (((k - 1 : Nat) : Int) : Int) from by omega))) (.inl (hS.pick [0])) ?_
       refine K.DWM.k 5 (by kernel_rfl) rfl rfl (by kernel_rfl) (by kernel_rfl) rfl (fun w => K.QR.k (v := .slice (some ⟨b_41, 0, none⟩) nn cp) (by kernel_rfl)) (.inl (hS.pick [0])) ?_
       refine K.DWM.k 6 (by kernel_rfl) rfl rfl (by kernel_rfl) (by kernel_rfl) rfl (fun w => K.QR.k (v := K.iv ((k : Nat) : Int)) (by kernel_rfl)) (.inl (hS.pick [0])) ?_
       refine K.DWM.k 7 (by kernel_rfl) rfl rfl (by kernel_rfl) (by kernel_rfl) rfl (fun w => K.QR.turn (v := K.iv ((k - 1 : Nat) : Int)) (K.QR.n64 ((((k : Nat) : Int) : Int) - (1 : Int)) ((k - 1 : Nat) : Int) (by kernel_rfl) (by omega)) (congrArg (Value.int .i64) (show (((k - 1 : Nat) : Int) : Int) = (((k - 1 : Nat) : Int) : Int) from by omega))) (.inl (hS.pick [0])) ?_
       refine K.DWM.k 8 (by kernel_rfl) rfl rfl (by kernel_rfl) (by kernel_rfl) rfl (fun w => K.QR.ix (k - 1) 1 rfl rfl rfl Try.underlying23 (by kernel_rfl) (by omega) (by first | (simp; done) | omega | (simp; omega))) (.inl (hS.pick [0])) ?_
       refine K.DWM.q 9 (by kernel_rfl) rfl rfl (by kernel_rfl) (by kernel_rfl) (by kernel_rfl) rfl (fun w hS => K.QR.ld1 (v := K.iv (Q1.getD (k - 1) 0)) rfl rfl (by kernel_rfl) (K.Own.atS (c := cI64) (d := 0) (fun _ => rfl) (hS.ownr 0 rfl x_39) (hbu.1.1.trans hnn) (k - 1) (by omega))) (hS.pick [0]) ?_
       refine K.DWM.k 10 (by kernel_rfl) rfl rfl (by kernel_rfl) (by kernel_rfl) rfl (fun w => K.QR.k (v := .slice (some ⟨b_41, 0, none⟩) nn cp) (by kernel_rfl)) (.inl (hS.pick [0])) ?_
       refine K.DWM.k 11 (by kernel_rfl) rfl rfl (by kernel_rfl) (by kernel_rfl) rfl (fun w => K.QR.k (v := K.iv ((k : Nat) : Int)) (by kernel_rfl)) (.inl (hS.pick [0])) ?_
       refine K.DWM.k 12 (by kernel_rfl) rfl rfl (by kernel_rfl) (by kernel_rfl) rfl (fun w => K.QR.ix k 1 rfl rfl rfl Try.underlying23 (by kernel_rfl) (by omega) (by first | (simp; done) | omega | (simp; omega))) (.inl (hS.pick [0])) ?_
       refine K.DWM.q 13 (by kernel_rfl) rfl rfl (by kernel_rfl) (by kernel_rfl) (by kernel_rfl) rfl (fun w hS => K.QR.ld1 (v := K.iv (Q1.getD k 0)) rfl rfl (by kernel_rfl) (K.Own.atS (c := cI64) (d := 0) (fun _ => rfl) (hS.ownr 0 rfl x_39) (hbu.1.1.trans hnn) k (by omega))) (hS.pick [0]) ?_
       refine K.DWM.k 14 (by kernel_rfl) rfl rfl (by kernel_rfl) (by kernel_rfl) rfl (fun w => K.QR.ix k 1 rfl rfl rfl Try.underlying23 (by kernel_rfl) (by omega) (by first | (simp; done) | omega | (simp; omega))) (.inl (hS.pick [0])) ?_
       refine K.DWM.l 15 rfl (by kernel_rfl) (by kernel_rfl) rfl (K.OW.grst 0 k [K.iv (Q1.getD (k - 1) 0)] (((Q1.set k (Q1.getD (k - 1) 0))).flatMap cI64) hS x_39 ?_ (by show _ + 1 ≤ _; omega) (K.set1 (c := cI64) Q1 k (Q1.getD (k - 1) 0) (by have := (hbu.1.1.trans hnn); omega)))
       clear hS; intro w l_43 o_44 hS
       have ln_45 : ((Q1.set k (Q1.getD (k - 1) 0))).length = _ := (List.length_set).trans (hbu.1.1.trans hnn)
       replace hS : K.Sat w0 [l_43, gc, gx, fr] w := hS
       refine K.DWM.k 16 (by kernel_rfl) rfl rfl (by kernel_rfl) (by kernel_rfl) rfl (fun w => K.QR.ix (k - 1) 1 rfl rfl rfl Try.underlying23 (by kernel_rfl) (by omega) (by first | (simp; done) | omega | (simp; omega))) (.inr (by kernel_rfl)) ?_
       refine K.DWM.l 17 rfl (by kernel_rfl) (by kernel_rfl) rfl (K.OW.grst 0 (k - 1) [K.iv (Q1.getD k 0)] ((((Q1.set k (Q1.getD (k - 1) 0)).set (k - 1) (Q1.getD k 0))).flatMap cI64) hS o_44 ?_ (by show _ + 1 ≤ _; omega) (K.set1 (c := cI64) (Q1.set k (Q1.getD (k - 1) 0)) (k - 1) (Q1.getD k 0) (by have := ln_45; omega)))
       clear hS; intro w l_46 o_47 hS
       have ln_48 : (((Q1.set k (Q1.getD (k - 1) 0)).set (k - 1) (Q1.getD k 0))).length = _ := (List.length_set).trans ln_45
       replace hS : K.Sat w0 [l_46, gc, gx, fr] w := hS
       refine K.DWM.done (by kernel_rfl) ?_
       refine K.blk_normal ?_
       refine K.t (K.g (K.q [K.iv ((k : Nat) : Int)] ?_))
       refine K.a (K.QR.turn (v := K.iv ((k - 1 : Nat) : Int)) (K.QR.n64 ((((k : Nat) : Int) : Int) - (1 : Int)) ((k - 1 : Nat) : Int) (by kernel_rfl) (by omega)) (congrArg (Value.int .i64) (show (((k - 1 : Nat) : Int) : Int) = (((k - 1 : Nat) : Int) : Int) from by omega))) ?_
       refine K.q [K.iv ((k - 1 : Nat) : Int)] (K.z (K.t ?_))
       refine ⟨_, ?_, k - 1, (swpP Q1 k), l_46, rfl, ⟨by rfl, by rfl, by rfl, by rfl, by rfl, by rfl, by rfl, by rfl, trivial⟩, (by omega), (hbu.step (by omega) (by omega) (by omega) (cmpI_lt.1 (Classical.byContradiction ((hf.end_ h_29).2.2.2.2 (k - 1) (by omega) (by omega))))), o_47, hS.pick [0, 1, 2, 3]⟩
       omega
      ·
       refine K.x ((((k : Nat) : Int) : Int) > (((i : Nat) : Int) : Int)) h_40 ?_
       refine K.z (K.t (K.f ?_))
       refine K.KW.exit ?_
       refine K.thn_exit ?_
       refine K.thn_exit ?_
       refine K.blk_hit ?_
       refine K.t (K.r (K.u ?_))
       refine ⟨.inr rfl, rfl, (.tuple #[]), K.res0 rfl, [d1, gc, gx], ?_, hS.pick [0, 1, 2, 3]⟩
       obtain rfl : i = k := by omega
       obtain ⟨hz1, hz2⟩ := hbu.fin (a := a0) h1 (hf.end_ h_29)
       rw [show m0 + 1 = b0 by omega] at hz1 hz2
       exact ⟨_, _, rfl, x_39, hz1, hz2⟩
  ·
   refine K.xe ((((b0 : Nat) : Int) : Int) - (((m0 : Nat) : Int) : Int) : Int) (1 : Int) h_25 ?_
   refine K.z (K.t (K.f (K.k (K.t (K.s ?_)))))
   obtain ⟨md, hmd⟩ : ∃ md, md = (a0 + b0) / 2 := ⟨_, rfl⟩
   refine K.g (K.q [K.iv ((a0 : Nat) : Int), K.iv ((b0 : Nat) : Int)] ?_)
   refine K.a (K.QR.n64 ((((a0 : Nat) : Int) : Int) + (((b0 : Nat) : Int) : Int)) ((a0 + b0 : Nat) : Int) (by kernel_rfl) (by omega)) ?_
   refine K.a (K.QR.nice (v := .int .u64 (IntKind.u64.wrap ((a0 + b0 : Nat) : Int))) (by kernel_rfl) (congrArg (Value.int .u64) (IntWalk.u64_in _ (by omega)))) ?_
   refine K.a (K.QR.turn (v := .int .u64 ((((a0 + b0 : Nat) : Int) : Int) / 2 ^ (1))) (K.QR.shr (m := 1) rfl rfl rfl (by show _ ≤ 64; omega) (by omega)) (congrArg (Value.int .u64) (show ((((a0 + b0 : Nat) : Int) : Int) / 2 ^ (1) : Int) = (((md : Nat) : Int) : Int) from by omega))) ?_
   refine K.a (K.QR.nice (v := K.iv (IntKind.i64.wrap ((md : Nat) : Int))) (by kernel_rfl) (congrArg (Value.int .i64) (IntWalk.i64_in _ (by omega)))) ?_
   refine K.q [K.iv ((md : Nat) : Int)] (K.z (K.t (K.s (K.g (K.q [K.iv ((md : Nat) : Int), K.iv ((m0 : Nat) : Int)] ?_)))))
   refine K.a (K.QR.turn (v := K.iv ((md + m0 : Nat) : Int)) (K.QR.n64 ((((md : Nat) : Int) : Int) + (((m0 : Nat) : Int) : Int)) ((md + m0 : Nat) : Int) (by kernel_rfl) (by omega)) (congrArg (Value.int .i64) (show (((md + m0 : Nat) : Int) : Int) = (((md + m0 : Nat) : Int) : Int) from by omega))) ?_
   refine K.q [K.iv ((md + m0 : Nat) : Int)] (K.z (K.t (K.s (K.g (K.q [K.iv 0, K.iv 0] (K.z (K.t ?_)))))))
   refine K.KW.cut (fun F_ w_ => ∃ (s0 : Nat) (r0 : Nat), K.Sl F_ [(0, .slice dp nn cp), (1, K.iv ((a0 : Nat) : Int)), (2, K.iv ((m0 : Nat) : Int)), (3, K.iv ((b0 : Nat) : Int)), (4, .func (.func 24) [].toArray [K.pa bc].toArray), (18, K.iv ((md : Nat) : Int)), (19, K.iv ((md + m0 : Nat) : Int)), (20, K.iv ((s0 : Nat) : Int)), (21, K.iv ((r0 : Nat) : Int)), (220, undef)] ∧ bndC a0 m0 b0 md s0 r0 ∧ K.Sat w0 [gd, gc, gx, fr] w_) ?_ ?_
   ·
    refine K.s (K.g (K.q [K.iv ((m0 : Nat) : Int), K.iv ((md : Nat) : Int)] ?_))
    by_cases h_49 : (((m0 : Nat) : Int) : Int) > (((md : Nat) : Int) : Int)
    ·
     refine K.y ((((m0 : Nat) : Int) : Int) > (((md : Nat) : Int) : Int)) h_49 ?_
     refine K.z (K.t (K.h (K.s (K.g (K.q [K.iv ((md + m0 : Nat) : Int), K.iv ((b0 : Nat) : Int)] ?_)))))
     refine K.a (K.QR.turn (v := K.iv ((((md + m0 : Nat) : Int) : Int) - (((b0 : Nat) : Int) : Int))) (K.QR.n64 ((((md + m0 : Nat) : Int) : Int) - (((b0 : Nat) : Int) : Int)) ((((md + m0 : Nat) : Int) : Int) - (((b0 : Nat) : Int) : Int)) (by kernel_rfl) (by omega)) (congrArg (Value.int .i64) (show ((((md + m0 : Nat) : Int) : Int) - (((b0 : Nat) : Int) : Int) : Int) = (((md + m0 - b0 : Nat) : Int) : Int) from by omega))) ?_
     refine K.q [K.iv ((md + m0 - b0 : Nat) : Int)] (K.z (K.t (K.g (K.q [K.iv ((md : Nat) : Int), K.iv ((md : Nat) : Int)] (K.z (K.t ?_))))))
     exact ⟨md + m0 - b0, md, ⟨by rfl, by rfl, by rfl, by rfl, by rfl, by rfl, by rfl, by rfl, by rfl, by rfl, trivial⟩, (.inl ⟨by omega, rfl, rfl⟩), hS.pick [0, 1, 2, 3]⟩
    ·
     refine K.x ((((m0 : Nat) : Int) : Int) > (((md : Nat) : Int) : Int)) h_49 ?_
     refine K.z (K.t (K.f (K.s (K.g (K.q [K.iv ((a0 : Nat) : Int), K.iv ((a0 : Nat) : Int)] (K.z (K.t (K.g (K.q [K.iv ((m0 : Nat) : Int), K.iv ((m0 : Nat) : Int)] (K.z (K.t ?_)))))))))))
     exact ⟨a0, m0, ⟨by rfl, by rfl, by rfl, by rfl, by rfl, by rfl, by rfl, by rfl, by rfl, by rfl, trivial⟩, (.inr ⟨by omega, rfl, rfl⟩), hS.pick [0, 1, 2, 3]⟩
   ·
    clear hS
    intro F_50 w hI
    obtain ⟨s0, r0, sl_51, hB, hS⟩ := hI
    rw [← K.Sl.puts sl_51]; clear sl_51
    have hr0 : r0 ≤ m0 := by rcases hB with hB | hB <;> omega
    refine K.s (K.g (K.q [K.iv ((md + m0 : Nat) : Int)] ?_))
    refine K.a (K.QR.turn (v := K.iv ((md + m0 - 1 : Nat) : Int)) (K.QR.n64 ((((md + m0 : Nat) : Int) : Int) - (1 : Int)) ((md + m0 - 1 : Nat) : Int) (by kernel_rfl) (by omega)) (congrArg (Value.int .i64) (show (((md + m0 - 1 : Nat) : Int) : Int) = (((md + m0 - 1 : Nat) : Int) : Int) from by omega))) ?_
    refine K.q [K.iv ((md + m0 - 1 : Nat) : Int)] (K.z (K.t (K.s ?_)))
    refine K.KW.block ?_
    refine K.KW.loop (fun m_ F_ w_ => ∃ (i : Nat) (j : Nat), m_ = j - i ∧ K.Sl F_ [(0, .slice dp nn cp), (1, K.iv ((a0 : Nat) : Int)), (2, K.iv ((m0 : Nat) : Int)), (3, K.iv ((b0 : Nat) : Int)), (4, .func (.func 24) [].toArray [K.pa bc].toArray), (18, K.iv ((md : Nat) : Int)), (19, K.iv ((md + m0 : Nat) : Int)), (20, K.iv ((i : Nat) : Int)), (21, K.iv ((j : Nat) : Int)), (22, K.iv ((md + m0 - 1 : Nat) : Int)), (220, undef)] ∧ srchP (prC L P (md + m0 - 1)) s0 r0 i j ∧ K.Sat w0 [gd, gc, gx, fr] w_) ((fun (i : Nat) (j : Nat) => j - i) s0 r0) ?_ ?_
    ·
     exact ⟨s0, r0, rfl, ⟨by rfl, by rfl, by rfl, by rfl, by rfl, by rfl, by rfl, by rfl, by rfl, by rfl, by rfl, trivial⟩, (srchP.nil (by rcases hB with hB | hB <;> omega)), hS.pick [0, 1, 2, 3]⟩
    ·
     clear hS
     intro m_52 F_53 w hI
     obtain ⟨i, j, rfl, sl_54, hf, hS⟩ := hI
     rw [← K.Sl.puts sl_54]; clear sl_54
     have hfb := hf.1
     have hfc := hf.2.1
     have hfd := hf.2.2.1
     refine K.s (K.s (K.g (K.q [K.iv ((i : Nat) : Int), K.iv ((j : Nat) : Int)] ?_)))
     by_cases h_55 : (((i : Nat) : Int) : Int) < (((j : Nat) : Int) : Int)
     ·
      refine K.y ((((i : Nat) : Int) : Int) < (((j : Nat) : Int) : Int)) h_55 ?_
      refine K.z (K.t (K.h (K.k (K.t ?_))))
      refine K.KW.block ?_
      refine K.s (K.g (K.q [K.iv ((i : Nat) : Int), K.iv ((j : Nat) : Int)] ?_))
      refine K.a (K.QR.n64 ((((i : Nat) : Int) : Int) + (((j : Nat) : Int) : Int)) ((i + j : Nat) : Int) (by kernel_rfl) (by omega)) ?_
      refine K.a (K.QR.nice (v := .int .u64 (IntKind.u64.wrap ((i + j : Nat) : Int))) (by kernel_rfl) (congrArg (Value.int .u64) (IntWalk.u64_in _ (by omega)))) ?_
      refine K.a (K.QR.turn (v := .int .u64 ((((i + j : Nat) : Int) : Int) / 2 ^ (1))) (K.QR.shr (m := 1) rfl rfl rfl (by show _ ≤ 64; omega) (by omega)) (congrArg (Value.int .u64) (show ((((i + j : Nat) : Int) : Int) / 2 ^ (1) : Int) = ((((i + j) / 2 : Nat) : Int) : Int) from by omega))) ?_
      refine K.a (K.QR.nice (v := K.iv (IntKind.i64.wrap (((i + j) / 2 : Nat) : Int))) (by kernel_rfl) (congrArg (Value.int .i64) (IntWalk.i64_in _ (by omega)))) ?_
      refine K.q [K.iv (((i + j) / 2 : Nat) : Int)] (K.z (K.t (K.s ?_)))
      have hcb : (i + j) / 2 < m0 ∧ a0 ≤ (i + j) / 2 ∧ m0 ≤ md + m0 - 1 - (i + j) / 2 ∧ md + m0 - 1 - (i + j) / 2 < b0 ∧ (i + j) / 2 ≤ md + m0 - 1 := by rcases hB with hB | hB <;> omega
      have hvx_56 := hv ((i + j) / 2) (by omega)
      have hvx_57 := hv (md + m0 - 1 - (i + j) / 2) (by omega)
      obtain ⟨b_58, rfl⟩ := hd.some_ (by have := hd.le; omega)
      refine K.KW.gdrawn [0] hS (by kernel_rfl) ?_
      clear hS; intro w hS
      refine K.p 0 rfl (.func (.func 24) [].toArray [K.pa bc].toArray) (hS.pick [0]) ?_
      refine K.p 1 rfl (.slice (some ⟨b_58, 0, none⟩) nn cp) (hS.pick [0]) ?_
      refine K.p 2 rfl (K.iv ((md + m0 - 1 : Nat) : Int)) (hS.pick [0]) ?_
      refine K.p 3 rfl (K.iv (((i + j) / 2 : Nat) : Int)) (hS.pick [0]) ?_
      refine K.m 4 rfl (fun w hS => K.QR.turn (v := K.iv ((((md + m0 - 1 : Nat) : Int) : Int) - ((((i + j) / 2 : Nat) : Int) : Int))) (K.QR.n64 ((((md + m0 - 1 : Nat) : Int) : Int) - ((((i + j) / 2 : Nat) : Int) : Int)) ((((md + m0 - 1 : Nat) : Int) : Int) - ((((i + j) / 2 : Nat) : Int) : Int)) (by kernel_rfl) (by omega)) (congrArg (Value.int .i64) (show ((((md + m0 - 1 : Nat) : Int) : Int) - ((((i + j) / 2 : Nat) : Int) : Int) : Int) = (((md + m0 - 1 - (i + j) / 2 : Nat) : Int) : Int) from by omega))) (hS.pick [0]) ?_
      refine K.m 5 rfl (fun w hS => K.QR.ix (md + m0 - 1 - (i + j) / 2) 1 rfl rfl rfl Try.underlying23 (by kernel_rfl) (by omega) (by first | (simp; done) | omega | (simp; omega))) (hS.pick [0]) ?_
      refine K.o_ 6 rfl (K.iv (P.getD (md + m0 - 1 - (i + j) / 2) 0)) (fun w hS => (K.Own.atS (c := cI64) (d := 0) (fun _ => rfl) (hS.ownr 0 rfl hd) hnn (md + m0 - 1 - (i + j) / 2) (by omega))) (hS.pick [0]) ?_
      refine K.p 7 rfl (.slice (some ⟨b_58, 0, none⟩) nn cp) (hS.pick [0]) ?_
      refine K.b 8 rfl (K.iv (((i + j) / 2 : Nat) : Int)) (hS.pick [0]) ?_
      refine K.c 9 rfl (K.QR.ix ((i + j) / 2) 1 rfl rfl rfl Try.underlying23 (by kernel_rfl) (by omega) (by first | (simp; done) | omega | (simp; omega))) (hS.pick [0]) ?_
      refine K.c 10 rfl (K.QR.ld1 (v := K.iv (P.getD ((i + j) / 2) 0)) rfl rfl (by kernel_rfl) (K.Own.atS (c := cI64) (d := 0) (fun _ => rfl) (hS.ownr 0 rfl hd) hnn ((i + j) / 2) (by omega))) (hS.pick [0]) ?_
      refine K.DW.l 11 rfl (by kernel_rfl) rfl (K.OW.gcallw hS [1, 2] [0, 3] [K.iv (P.getD (md + m0 - 1 - (i + j) / 2) 0), K.iv (P.getD ((i + j) / 2) 0), K.pa bc] (order1_ok _ _ _ _ _ L (by omega) hgc _ hx (P.getD (md + m0 - 1 - (i + j) / 2) 0) (P.getD ((i + j) / 2) 0) (by omega) (by omega)) ?_)
      clear hS; rintro _ _ w ⟨rfl, rfl⟩ hS
      replace hS : K.Sat w0 [gc, gx, gd, fr] w := hS
      refine ⟨.inl (hS.pick [2]), ?_⟩
      by_cases h_60 : ((cmpI (keyL L (P.getD (md + m0 - 1 - (i + j) / 2) 0)) (keyL L (P.getD ((i + j) / 2) 0))) : Int) < (0 : Int)
      ·
       refine K.c 12 rfl (K.QR.nice (v := .bool (decide (((cmpI (keyL L (P.getD (md + m0 - 1 - (i + j) / 2) 0)) (keyL L (P.getD ((i + j) / 2) 0))) : Int) < (0 : Int)))) (by kernel_rfl) (congrArg Value.bool (decide_eq_true h_60))) (hS.pick [2]) ?_
       refine K.b 13 rfl (.bool false) (hS.pick [2]) ?_
       refine K.DW.done (by kernel_rfl) ?_
       refine K.t (K.f (K.g (K.q [K.iv (((i + j) / 2 : Nat) : Int), K.iv (((i + j) / 2 : Nat) : Int)] (K.z ?_))))
       refine K.blk_normal ?_
       refine K.t ?_
       refine ⟨_, ?_, i, (i + j) / 2, rfl, ⟨by rfl, by rfl, by rfl, by rfl, by rfl, by rfl, by rfl, by rfl, by rfl, by rfl, by rfl, trivial⟩, (hf.no (prC_down h1 h2 hmd ham hmb hB) (by omega) (fun hh => hh h_60)), hS.pick [2, 0, 1, 3]⟩
       omega
      ·
       refine K.c 12 rfl (K.QR.nice (v := .bool (decide (((cmpI (keyL L (P.getD (md + m0 - 1 - (i + j) / 2) 0)) (keyL L (P.getD ((i + j) / 2) 0))) : Int) < (0 : Int)))) (by kernel_rfl) (congrArg Value.bool (decide_eq_false h_60))) (hS.pick [2]) ?_
       refine K.b 13 rfl (.bool true) (hS.pick [2]) ?_
       refine K.DW.done (by kernel_rfl) ?_
       refine K.t (K.h (K.g (K.q [K.iv (((i + j) / 2 : Nat) : Int)] ?_)))
       refine K.a (K.QR.n64 (((((i + j) / 2 : Nat) : Int) : Int) + (1 : Int)) (((i + j) / 2 + 1 : Nat) : Int) (by kernel_rfl) (by omega)) ?_
       refine K.q [K.iv (((i + j) / 2 + 1 : Nat) : Int)] (K.z ?_)
       refine K.blk_normal ?_
       refine K.t ?_
       refine ⟨_, ?_, (i + j) / 2 + 1, j, rfl, ⟨by rfl, by rfl, by rfl, by rfl, by rfl, by rfl, by rfl, by rfl, by rfl, by rfl, by rfl, trivial⟩, (hf.yes (prC_down h1 h2 hmd ham hmb hB) (by omega) h_60), hS.pick [2, 0, 1, 3]⟩
       omega
     ·
      refine K.x ((((i : Nat) : Int) : Int) < (((j : Nat) : Int) : Int)) h_55 ?_
      refine K.z (K.t (K.f ?_))
      refine K.KW.exit ?_
      refine K.thn_exit ?_
      refine K.thn_exit ?_
      refine K.blk_hit ?_
      refine K.t (K.s ?_)
      have hxb : a0 ≤ i ∧ i ≤ md ∧ i ≤ m0 ∧ md + m0 - i ≤ b0 := by have hx1 := hf.1; have hx2 := hf.2.2.1; have hx3 := hf.2.1; rcases hB with hB | hB <;> omega
      refine K.g (K.q [K.iv ((md + m0 : Nat) : Int), K.iv ((i : Nat) : Int)] ?_)
      refine K.a (K.QR.turn (v := K.iv ((((md + m0 : Nat) : Int) : Int) - (((i : Nat) : Int) : Int))) (K.QR.n64 ((((md + m0 : Nat) : Int) : Int) - (((i : Nat) : Int) : Int)) ((((md + m0 : Nat) : Int) : Int) - (((i : Nat) : Int) : Int)) (by kernel_rfl) (by omega)) (congrArg (Value.int .i64) (show ((((md + m0 : Nat) : Int) : Int) - (((i : Nat) : Int) : Int) : Int) = (((md + m0 - i : Nat) : Int) : Int) from by omega))) ?_
      refine K.q [K.iv ((md + m0 - i : Nat) : Int)] (K.z (K.t ?_))
      refine K.KW.cut (fun F_ w_ => ∃ (Q1 : List Int) (d1 : K.Cs), K.Sl F_ [(0, .slice dp nn cp), (1, K.iv ((a0 : Nat) : Int)), (2, K.iv ((m0 : Nat) : Int)), (3, K.iv ((b0 : Nat) : Int)), (4, .func (.func 24) [].toArray [K.pa bc].toArray), (18, K.iv ((md : Nat) : Int)), (20, K.iv ((i : Nat) : Int)), (24, K.iv ((md + m0 - i : Nat) : Int)), (220, undef)] ∧ rotR P Q1 i m0 (md + m0 - i) ∧ K.OwnG d1 3 1 dp nn cp ((Q1).flatMap cI64) ∧ K.Sat w0 [d1, gc, gx, fr] w_) ?_ ?_
      ·
       refine K.s (K.g (K.q [K.iv ((i : Nat) : Int), K.iv ((m0 : Nat) : Int)] ?_))
       by_cases h_61 : (((i : Nat) : Int) : Int) < (((m0 : Nat) : Int) : Int)
       ·
        refine K.y ((((i : Nat) : Int) : Int) < (((m0 : Nat) : Int) : Int)) h_61 ?_
        refine K.q [.bool true, K.iv ((m0 : Nat) : Int), K.iv ((md + m0 - i : Nat) : Int)] ?_
        by_cases h_62 : (((m0 : Nat) : Int) : Int) < (((md + m0 - i : Nat) : Int) : Int)
        ·
         refine K.y ((((m0 : Nat) : Int) : Int) < (((md + m0 - i : Nat) : Int) : Int)) h_62 ?_
         refine K.q [.bool true] (K.z (K.t (K.h (K.g (K.q [.slice dp nn cp, K.iv ((i : Nat) : Int), K.iv ((m0 : Nat) : Int), K.iv ((md + m0 - i : Nat) : Int), .func (.func 24) [].toArray [K.pa bc].toArray] ?_)))))
         refine K.l (K.OW.gcall hS [0] [1, 2, 3] [.slice dp nn cp, K.iv ((i : Nat) : Int), K.iv ((m0 : Nat) : Int), K.iv ((md + m0 - i : Nat) : Int), .func (.func 24) [].toArray [K.pa bc].toArray] (rot_ok _ dp cp _ P hnn _ hd (by omega) i m0 (md + m0 - i) (by omega) (by omega) (by omega) bc) ?_)
         clear hS; rintro _ _ w ⟨gd_63, Q_64, rfl, ho_65, hr_66⟩ hS
         replace hS : K.Sat w0 [gd_63, gc, gx, fr] w := hS
         refine K.z (K.t ?_)
         exact ⟨Q_64, gd_63, ⟨by rfl, by rfl, by rfl, by rfl, by rfl, by rfl, by rfl, by rfl, by rfl, trivial⟩, (hr_66), ho_65, hS.pick [0, 1, 2, 3]⟩
        ·
         refine K.x ((((m0 : Nat) : Int) : Int) < (((md + m0 - i : Nat) : Int) : Int)) h_62 ?_
         refine K.q [.bool false] (K.z (K.t (K.f (K.k (K.t ?_)))))
         exact ⟨P, gd, ⟨by rfl, by rfl, by rfl, by rfl, by rfl, by rfl, by rfl, by rfl, by rfl, trivial⟩, (rotR.none (by omega)), hd, hS.pick [0, 1, 2, 3]⟩
       ·
        refine K.x ((((i : Nat) : Int) : Int) < (((m0 : Nat) : Int) : Int)) h_61 ?_
        refine K.q [.bool false] (K.n_ (K.n_ (K.n_ (K.q [.bool false] (K.z (K.t (K.f (K.k (K.t ?_)))))))))
        exact ⟨P, gd, ⟨by rfl, by rfl, by rfl, by rfl, by rfl, by rfl, by rfl, by rfl, by rfl, trivial⟩, (rotR.none (by omega)), hd, hS.pick [0, 1, 2, 3]⟩
      ·
       clear hS
       intro F_67 w hI
       obtain ⟨Q1, d1, sl_68, hro, x_69, hS⟩ := hI
       rw [← K.Sl.puts sl_68]; clear sl_68
       obtain ⟨hm1, hm2, hm3, hm4, hm5, hm6⟩ := symmid hv hst h1 h2 ham hmb (by omega) hmd hB (hf.end_ h_55) hro
       have hq1v := hm1.2.1
       have hq1s := hm1.2.2.1
       have hxb : a0 ≤ i ∧ i ≤ md ∧ i ≤ m0 ∧ md + m0 - i ≤ b0 := by have hx1 := hf.1; have hx2 := hf.2.2.1; rcases hB with hB | hB <;> omega
       refine K.KW.cut (fun F_ w_ => ∃ (Q2 : List Int) (d2 : K.Cs), K.Sl F_ [(0, .slice dp nn cp), (1, K.iv ((a0 : Nat) : Int)), (2, K.iv ((m0 : Nat) : Int)), (3, K.iv ((b0 : Nat) : Int)), (4, .func (.func 24) [].toArray [K.pa bc].toArray), (18, K.iv ((md : Nat) : Int)), (24, K.iv ((md + m0 - i : Nat) : Int)), (220, undef)] ∧ keepP L Q1 Q2 a0 md ∧ srtP L Q2 a0 md ∧ K.OwnG d2 3 1 dp nn cp ((Q2).flatMap cI64) ∧ K.Sat w0 [d2, gc, gx, fr] w_) ?_ ?_
       ·
        refine K.s (K.g (K.q [K.iv ((a0 : Nat) : Int), K.iv ((i : Nat) : Int)] ?_))
        by_cases h_70 : (((a0 : Nat) : Int) : Int) < (((i : Nat) : Int) : Int)
        ·
         refine K.y ((((a0 : Nat) : Int) : Int) < (((i : Nat) : Int) : Int)) h_70 ?_
         refine K.q [.bool true, K.iv ((i : Nat) : Int), K.iv ((md : Nat) : Int)] ?_
         by_cases h_71 : (((i : Nat) : Int) : Int) < (((md : Nat) : Int) : Int)
         ·
          refine K.y ((((i : Nat) : Int) : Int) < (((md : Nat) : Int) : Int)) h_71 ?_
          refine K.q [.bool true] (K.z (K.t (K.h (K.g (K.q [.slice dp nn cp, K.iv ((a0 : Nat) : Int), K.iv ((i : Nat) : Int), K.iv ((md : Nat) : Int), .func (.func 24) [].toArray [K.pa bc].toArray] ?_)))))
          refine K.l (K.OW.gcall hS [0, 1, 2] [3] [.slice dp nn cp, K.iv ((a0 : Nat) : Int), K.iv ((i : Nat) : Int), K.iv ((md : Nat) : Int), .func (.func 24) [].toArray [K.pa bc].toArray] (IH Q1 _ a0 i md (hro.1.trans hnn) x_69 (by omega) (by omega) (by omega) (by omega) hq1v hq1s hm2 hm3) ?_)
          clear hS; rintro _ _ w ⟨gd_72, Q_73, rfl, ho_74, hr_75, hs_76⟩ hS
          replace hS : K.Sat w0 [gd_72, gc, gx, fr] w := hS
          refine K.z (K.t ?_)
          exact ⟨Q_73, gd_72, ⟨by rfl, by rfl, by rfl, by rfl, by rfl, by rfl, by rfl, by rfl, trivial⟩, (hr_75), (hs_76), ho_74, hS.pick [0, 1, 2, 3]⟩
         ·
          refine K.x ((((i : Nat) : Int) : Int) < (((md : Nat) : Int) : Int)) h_71 ?_
          refine K.q [.bool false] (K.z (K.t (K.f (K.k (K.t ?_)))))
          exact ⟨Q1, d1, ⟨by rfl, by rfl, by rfl, by rfl, by rfl, by rfl, by rfl, by rfl, trivial⟩, (keepP.refl hq1v hq1s), (srtP.cat (by omega) hm2 hm3), x_69, hS.pick [0, 1, 2, 3]⟩
        ·
         refine K.x ((((a0 : Nat) : Int) : Int) < (((i : Nat) : Int) : Int)) h_70 ?_
         refine K.q [.bool false] (K.n_ (K.n_ (K.n_ (K.q [.bool false] (K.z (K.t (K.f (K.k (K.t ?_)))))))))
         exact ⟨Q1, d1, ⟨by rfl, by rfl, by rfl, by rfl, by rfl, by rfl, by rfl, by rfl, trivial⟩, (keepP.refl hq1v hq1s), (srtP.cat (by omega) hm2 hm3), x_69, hS.pick [0, 1, 2, 3]⟩
       ·
        clear hS
        intro F_77 w hI
        obtain ⟨Q2, d2, sl_78, hk2, hs2, x_79, hS⟩ := hI
        rw [← K.Sl.puts sl_78]; clear sl_78
        skip
        refine K.s (K.g (K.q [K.iv ((md : Nat) : Int), K.iv ((md + m0 - i : Nat) : Int)] ?_))
        by_cases h_80 : (((md : Nat) : Int) : Int) < (((md + m0 - i : Nat) : Int) : Int)
        ·
         refine K.y ((((md : Nat) : Int) : Int) < (((md + m0 - i : Nat) : Int) : Int)) h_80 ?_
         refine K.q [.bool true, K.iv ((md + m0 - i : Nat) : Int), K.iv ((b0 : Nat) : Int)] ?_
         by_cases h_81 : (((md + m0 - i : Nat) : Int) : Int) < (((b0 : Nat) : Int) : Int)
         ·
          refine K.y ((((md + m0 - i : Nat) : Int) : Int) < (((b0 : Nat) : Int) : Int)) h_81 ?_
          refine K.q [.bool true] (K.z (K.t (K.h (K.g (K.q [.slice dp nn cp, K.iv ((md : Nat) : Int), K.iv ((md + m0 - i : Nat) : Int), K.iv ((b0 : Nat) : Int), .func (.func 24) [].toArray [K.pa bc].toArray] ?_)))))
          refine K.l (K.OW.gcall hS [0, 1, 2] [3] [.slice dp nn cp, K.iv ((md : Nat) : Int), K.iv ((md + m0 - i : Nat) : Int), K.iv ((b0 : Nat) : Int), .func (.func 24) [].toArray [K.pa bc].toArray] (IH Q2 _ md (md + m0 - i) b0 (hk2.1.trans (hm1.1.trans hnn)) x_79 (by omega) (by omega) (by omega) (by omega) hk2.2.1 hk2.2.2.1 (hm4.keep hk2 (.inr (by omega))) (hm5.keep hk2 (.inr (by omega)))) ?_)
          clear hS; rintro _ _ w ⟨gd_82, Q_83, rfl, ho_84, hr_85, hs_86⟩ hS
          replace hS : K.Sat w0 [gd_82, gc, gx, fr] w := hS
          refine K.z ?_
          refine ⟨.inl rfl, rfl, (.tuple #[]), K.res0 rfl, [gd_82, gc, gx], ?_, hS.pick [0, 1, 2, 3]⟩
          obtain ⟨hz1, hz2⟩ := symfin (by omega) (by omega) hm6 hk2 hs2 hr_85 hs_86
          exact ⟨_, _, rfl, ho_84, hm1.trans hz1, hz2⟩
         ·
          refine K.x ((((md + m0 - i : Nat) : Int) : Int) < (((b0 : Nat) : Int) : Int)) h_81 ?_
          refine K.q [.bool false] (K.z (K.t (K.f (K.k ?_))))
          refine ⟨.inl rfl, rfl, (.tuple #[]), K.res0 rfl, [d2, gc, gx], ?_, hS.pick [0, 1, 2, 3]⟩
          have hen := srtP.cat (by omega) (hm4.keep hk2 (.inr (by omega))) (hm5.keep hk2 (.inr (by omega)))
          obtain ⟨hz1, hz2⟩ := symfin (by omega) (by omega) hm6 hk2 hs2 (keepP.refl hk2.2.1 hk2.2.2.1) hen
          exact ⟨_, _, rfl, x_79, hm1.trans hz1, hz2⟩
        ·
         refine K.x ((((md : Nat) : Int) : Int) < (((md + m0 - i : Nat) : Int) : Int)) h_80 ?_
         refine K.q [.bool false] (K.n_ (K.n_ (K.n_ (K.q [.bool false] (K.z (K.t (K.f (K.k ?_))))))))
         refine ⟨.inl rfl, rfl, (.tuple #[]), K.res0 rfl, [d2, gc, gx], ?_, hS.pick [0, 1, 2, 3]⟩
         have hen := srtP.cat (by omega) (hm4.keep hk2 (.inr (by omega))) (hm5.keep hk2 (.inr (by omega)))
         obtain ⟨hz1, hz2⟩ := symfin (by omega) (by omega) hm6 hk2 hs2 (keepP.refl hk2.2.1 hk2.2.2.1) hen
         exact ⟨_, _, rfl, x_79, hm1.trans hz1, hz2⟩
end Go.Proofs.Ytnehocjmgnhhhaa
