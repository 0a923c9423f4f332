import Derived.Test.YtnehocjmgnhhhaaFso2
import Derived.Test.YtnehocjmgnhhhaaKn
/- Witness: the sort: insertion. -/
namespace Go.Proofs.Ytnehocjmgnhhhaa
open Go.RowKit
set_option linter.unusedVariables false
attribute [local irreducible] K.KW K.RW K.DW K.OW K.QR K.KC
set_option maxHeartbeats 8000000 in
set_option maxRecDepth 100000 in
theorem inssort_ok (w0 : World) (dp : Option Addr) (cp nn : Nat) (P : List Int) (hnn : P.length = nn) (gd : K.Cs) (hd : K.OwnG gd 3 1 dp nn cp (P.flatMap cI64)) (hP1 : nn ≤ 1000000) (a0 b0 : Nat) (hab : a0 ≤ b0) (hb0 : b0 ≤ nn) (bc : Nat) (gc : K.Cs) (a : Option Addr) (cap : Nat) (L : List CallM) (hm : L.length ≤ 1000000) (hgc : gc = [K.pt bc 22 [.slice a L.length cap]]) (gx : K.Cs) (hx : ∀ w, K.Sat w0 [gx] w → K.RowE w a L.length 11 (fun i => cCall (L.getD i call0))) (hv : valP L P) (hst : stbP L P) :
  K.GC Try.prog w0 52 #[.slice dp nn cp, K.iv ((a0 : Nat) : Int), K.iv ((b0 : Nat) : Int), .func (.func 24) [].toArray [K.pa bc].toArray] [gd, gc, gx] (fun v post => ∃ gd' Q, post = [gd', gc, gx] ∧ K.OwnG gd' 3 1 dp nn cp (Q.flatMap cI64) ∧ keepP L P Q a0 b0 ∧ srtP L Q a0 b0) := by
 refine K.GC.mk (n := 53) Try.func52 rfl rfl [.slice dp nn cp, K.iv ((a0 : Nat) : Int), K.iv ((b0 : Nat) : Int), .func (.func 24) [].toArray [K.pa bc].toArray] rfl rfl ?_
 intro fr w hS
 replace hS : K.Sat w0 [gd, gc, gx, fr] w := hS
 refine K.s (K.g (K.q [K.iv ((a0 : Nat) : Int)] ?_))
 refine K.a (K.QR.n64 ((((a0 : Nat) : Int) : Int) + (1 : Int)) ((a0 + 1 : Nat) : Int) (by kernel_rfl) (by omega)) ?_
 refine K.q [K.iv ((a0 + 1 : Nat) : Int)] (K.z (K.t ?_))
 refine K.KW.block ?_
 refine K.KW.loop (fun m_ F_ w_ => ∃ (i : Nat) (Q : List Int) (d1 : K.Cs), m_ = b0 + 1 - i ∧ K.Sl F_ [(0, .slice dp nn cp), (1, K.iv ((a0 : Nat) : Int)), (2, K.iv ((b0 : Nat) : Int)), (3, .func (.func 24) [].toArray [K.pa bc].toArray), (8, K.iv ((i : Nat) : Int)), (53, undef)] ∧ a0 + 1 ≤ i ∧ ((i ≤ b0 ∨ i = a0 + 1)) ∧ keepP L P Q a0 b0 ∧ srtP L Q a0 i ∧ K.OwnG d1 3 1 dp nn cp ((Q).flatMap cI64) ∧ K.Sat w0 [d1, gc, gx, fr] w_) ((fun (i : Nat) (Q : List Int) => b0 + 1 - i) (a0 + 1) P) ?_ ?_
 ·
  exact ⟨a0 + 1, P, gd, rfl, ⟨by rfl, by rfl, by rfl, by rfl, by rfl, by rfl, trivial⟩, (by omega), (by omega), (keepP.refl hv hst), (fun p q h1 h2 h3 => by omega), hd, hS.pick [0, 1, 2, 3]⟩
 ·
  clear hS
  intro m_1 F_2 w hI
  obtain ⟨i, Q, d1, rfl, sl_3, p_4, p_5, hk0, hsr, x_6, hS⟩ := hI
  rw [← K.Sl.puts sl_3]; clear sl_3
  refine K.s (K.s (K.g (K.q [K.iv ((i : Nat) : Int), K.iv ((b0 : Nat) : Int)] ?_)))
  by_cases h_7 : (((i : Nat) : Int) : Int) < (((b0 : Nat) : Int) : Int)
  ·
   refine K.y ((((i : Nat) : Int) : Int) < (((b0 : Nat) : Int) : Int)) h_7 ?_
   refine K.z (K.t (K.h (K.k (K.t (K.s ?_)))))
   refine K.KW.block ?_
   refine K.s (K.g (K.q [K.iv ((i : Nat) : Int), K.iv ((i : Nat) : Int)] (K.z (K.t ?_))))
   refine K.KW.block ?_
   refine K.KW.loop (fun m_ F_ w_ => ∃ (j : Nat) (Q2 : List Int) (d2 : K.Cs), m_ = 2 * j ∧ K.Sl F_ [(0, .slice dp nn cp), (1, K.iv ((a0 : Nat) : Int)), (2, K.iv ((b0 : Nat) : Int)), (3, .func (.func 24) [].toArray [K.pa bc].toArray), (8, K.iv ((i : Nat) : Int)), (9, K.iv ((j : Nat) : Int)), (53, undef)] ∧ (a0 ≤ j ∧ j ≤ i) ∧ keepP L P Q2 a0 b0 ∧ insP L Q2 a0 i j ∧ K.OwnG d2 3 1 dp nn cp ((Q2).flatMap cI64) ∧ K.Sat w0 [d2, gc, gx, fr] w_) ((fun (j : Nat) (Q2 : List Int) => 2 * j) i Q) ?_ ?_
   ·
    exact ⟨i, Q, d1, rfl, ⟨by rfl, by rfl, by rfl, by rfl, by rfl, by rfl, by rfl, trivial⟩, (by omega), (hk0), (insP_0 hsr), x_6, hS.pick [0, 1, 2, 3]⟩
   ·
    clear hS
    intro m_8 F_9 w hI
    obtain ⟨j, Q2, d2, rfl, sl_10, p_11, hk, hin, x_12, hS⟩ := hI
    rw [← K.Sl.puts sl_10]; clear sl_10
    refine K.s (K.s ?_)
    have hQl := hk.1
    have hvj := hk.2.1 j (by omega)
    have hvj1 := hk.2.1 (j - 1) (by omega)
    obtain ⟨b_13, rfl⟩ := x_12.some_ (by have := x_12.le; omega)
    refine K.KW.gdrawn [0] hS (by kernel_rfl) ?_
    clear hS; intro w hS
    refine K.p 0 rfl (K.iv ((j : Nat) : Int)) (hS.pick [0]) ?_
    refine K.b 1 rfl (K.iv ((a0 : Nat) : Int)) (hS.pick [0]) ?_
    by_cases h_15 : (((j : Nat) : Int) : Int) > (((a0 : Nat) : Int) : Int)
    ·
     refine K.c 2 rfl (K.QR.nice (v := .bool (decide ((((j : Nat) : Int) : Int) > (((a0 : Nat) : Int) : Int)))) (by kernel_rfl) (congrArg Value.bool (decide_eq_true h_15))) (hS.pick [0]) ?_
     refine K.b 3 rfl (.bool true) (hS.pick [0]) ?_
     refine K.p 4 rfl (.func (.func 24) [].toArray [K.pa bc].toArray) (hS.pick [0]) ?_
     refine K.p 5 rfl (.slice (some ⟨b_13, 0, none⟩) nn cp) (hS.pick [0]) ?_
     refine K.p 6 rfl (K.iv ((j : Nat) : Int)) (hS.pick [0]) ?_
     refine K.m 7 rfl (fun w hS => K.QR.ix j 1 rfl rfl rfl Try.underlying23 (by kernel_rfl) (by omega) (by first | (simp; done) | omega | (simp; omega))) (hS.pick [0]) ?_
     refine K.o_ 8 rfl (K.iv (Q2.getD j 0)) (fun w hS => (K.Own.atS (c := cI64) (d := 0) (fun _ => rfl) (hS.ownr 0 rfl x_12) (hk.1.trans hnn) j (by omega))) (hS.pick [0]) ?_
     refine K.p 9 rfl (.slice (some ⟨b_13, 0, none⟩) nn cp) (hS.pick [0]) ?_
     refine K.b 10 rfl (K.iv ((j : Nat) : Int)) (hS.pick [0]) ?_
     refine K.c 11 rfl (K.QR.turn (v := K.iv ((j - 1 : Nat) : Int)) (K.QR.n64 ((((j : Nat) : Int) : Int) - (1 : Int)) ((j - 1 : Nat) : Int) (by kernel_rfl) (by omega)) (congrArg (Value.int .i64) (show (((j - 1 : Nat) : Int) : Int) = (((j - 1 : Nat) : Int) : Int) from by omega))) (hS.pick [0]) ?_
     refine K.c 12 rfl (K.QR.ix (j - 1) 1 rfl rfl rfl Try.underlying23 (by kernel_rfl) (by omega) (by first | (simp; done) | omega | (simp; omega))) (hS.pick [0]) ?_
     refine K.c 13 rfl (K.QR.ld1 (v := K.iv (Q2.getD (j - 1) 0)) rfl rfl (by kernel_rfl) (K.Own.atS (c := cI64) (d := 0) (fun _ => rfl) (hS.ownr 0 rfl x_12) (hk.1.trans hnn) (j - 1) (by omega))) (hS.pick [0]) ?_
     refine K.DW.l 14 rfl (by kernel_rfl) (by kernel_rfl) (K.OW.gcallw hS [1, 2] [0, 3] [K.iv (Q2.getD j 0), K.iv (Q2.getD (j - 1) 0), K.pa bc] (order1_ok _ _ _ _ _ L (by omega) hgc _ hx (Q2.getD j 0) (Q2.getD (j - 1) 0) (by omega) (by omega)) ?_)
     clear hS; rintro _ _ w ⟨rfl, rfl⟩ hS
     replace hS : K.Sat w0 [gc, gx, d2, fr] w := hS
     refine ⟨.inl (hS.pick [2]), ?_⟩
     by_cases h_16 : ((cmpI (keyL L (Q2.getD j 0)) (keyL L (Q2.getD (j - 1) 0))) : Int) < (0 : Int)
     ·
      refine K.c 15 rfl (K.QR.nice (v := .bool (decide (((cmpI (keyL L (Q2.getD j 0)) (keyL L (Q2.getD (j - 1) 0))) : Int) < (0 : Int)))) (by kernel_rfl) (congrArg Value.bool (decide_eq_true h_16))) (hS.pick [2]) ?_
      refine K.b 16 rfl (.bool true) (hS.pick [2]) ?_
      refine K.DW.done (by kernel_rfl) ?_
      refine K.t (K.h (K.k (K.t (K.s ?_))))
      refine K.KW.block ?_
      refine K.KW.gdrawnM [2] [15, 17] hS (by kernel_rfl) ?_
      clear hS; intro w hS
      refine K.DWM.k 0 (by kernel_rfl) rfl rfl (by kernel_rfl) (by kernel_rfl) rfl (fun w => K.QR.k (v := .slice (some ⟨b_13, 0, none⟩) nn cp) (by kernel_rfl)) (.inl (hS.pick [2])) ?_
      refine K.DWM.k 1 (by kernel_rfl) rfl rfl (by kernel_rfl) (by kernel_rfl) rfl (fun w => K.QR.k (v := K.iv ((j : Nat) : Int)) (by kernel_rfl)) (.inl (hS.pick [2])) ?_
      refine K.DWM.k 2 (by kernel_rfl) rfl rfl (by kernel_rfl) (by kernel_rfl) rfl (fun w => K.QR.k (v := .slice (some ⟨b_13, 0, none⟩) nn cp) (by kernel_rfl)) (.inl (hS.pick [2])) ?_
      refine K.DWM.k 3 (by kernel_rfl) rfl rfl (by kernel_rfl) (by kernel_rfl) rfl (fun w => K.QR.k (v := K.iv ((j : Nat) : Int)) (by kernel_rfl)) (.inl (hS.pick [2])) ?_
      refine K.DWM.k 4 (by kernel_rfl) rfl rfl (by kernel_rfl) (by kernel_rfl) rfl (fun w => K.QR.turn (v := K.iv ((j - 1 : Nat) : Int)) (K.QR.n64 ((((j : Nat) : Int) : Int) - (1 : Int)) ((j - 1 : Nat) : Int) (by kernel_rfl) (by omega)) (congrArg (Value.int .i64) (show (((j - 1 : Nat) : Int) : Int) = (((j - 1 : Nat) : Int) : Int) from by omega))) (.inl (hS.pick [2])) ?_
      refine K.DWM.k 5 (by kernel_rfl) rfl rfl (by kernel_rfl) (by kernel_rfl) rfl (fun w => K.QR.k (v := .slice (some ⟨b_13, 0, none⟩) nn cp) (by kernel_rfl)) (.inl (hS.pick [2])) ?_
      refine K.DWM.k 6 (by kernel_rfl) rfl rfl (by kernel_rfl) (by kernel_rfl) rfl (fun w => K.QR.k (v := K.iv ((j : Nat) : Int)) (by kernel_rfl)) (.inl (hS.pick [2])) ?_
      refine K.DWM.k 7 (by kernel_rfl) rfl rfl (by kernel_rfl) (by kernel_rfl) rfl (fun w => K.QR.turn (v := K.iv ((j - 1 : Nat) : Int)) (K.QR.n64 ((((j : Nat) : Int) : Int) - (1 : Int)) ((j - 1 : Nat) : Int) (by kernel_rfl) (by omega)) (congrArg (Value.int .i64) (show (((j - 1 : Nat) : Int) : Int) = (((j - 1 : Nat) : Int) : Int) from by omega))) (.inl (hS.pick [2])) ?_
      refine K.DWM.k 8 (by kernel_rfl) rfl rfl (by kernel_rfl) (by kernel_rfl) rfl (fun w => K.QR.ix (j - 1) 1 rfl rfl rfl Try.underlying23 (by kernel_rfl) (by omega) (by first | (simp; done) | omega | (simp; omega))) (.inl (hS.pick [2])) ?_
      refine K.DWM.q 9 (by kernel_rfl) rfl rfl (by kernel_rfl) (by kernel_rfl) (by kernel_rfl) rfl (fun w hS => K.QR.ld1 (v := K.iv (Q2.getD (j - 1) 0)) rfl rfl (by kernel_rfl) (K.Own.atS (c := cI64) (d := 0) (fun _ => rfl) (hS.ownr 0 rfl x_12) (hk.1.trans hnn) (j - 1) (by omega))) (hS.pick [2]) ?_
      refine K.DWM.k 10 (by kernel_rfl) rfl rfl (by kernel_rfl) (by kernel_rfl) rfl (fun w => K.QR.k (v := .slice (some ⟨b_13, 0, none⟩) nn cp) (by kernel_rfl)) (.inl (hS.pick [2])) ?_
      refine K.DWM.k 11 (by kernel_rfl) rfl rfl (by kernel_rfl) (by kernel_rfl) rfl (fun w => K.QR.k (v := K.iv ((j : Nat) : Int)) (by kernel_rfl)) (.inl (hS.pick [2])) ?_
      refine K.DWM.k 12 (by kernel_rfl) rfl rfl (by kernel_rfl) (by kernel_rfl) rfl (fun w => K.QR.ix j 1 rfl rfl rfl Try.underlying23 (by kernel_rfl) (by omega) (by first | (simp; done) | omega | (simp; omega))) (.inl (hS.pick [2])) ?_
      refine K.DWM.q 13 (by kernel_rfl) rfl rfl (by kernel_rfl) (by kernel_rfl) (by kernel_rfl) rfl (fun w hS => K.QR.ld1 (v := K.iv (Q2.getD j 0)) rfl rfl (by kernel_rfl) (K.Own.atS (c := cI64) (d := 0) (fun _ => rfl) (hS.ownr 0 rfl x_12) (hk.1.trans hnn) j (by omega))) (hS.pick [2]) ?_
      refine K.DWM.k 14 (by kernel_rfl) rfl rfl (by kernel_rfl) (by kernel_rfl) rfl (fun w => K.QR.ix j 1 rfl rfl rfl Try.underlying23 (by kernel_rfl) (by omega) (by first | (simp; done) | omega | (simp; omega))) (.inl (hS.pick [2])) ?_
      refine K.DWM.l 15 rfl (by kernel_rfl) (by kernel_rfl) rfl (K.OW.grst 2 j [K.iv (Q2.getD (j - 1) 0)] (((Q2.set j (Q2.getD (j - 1) 0))).flatMap cI64) hS x_12 ?_ (by show _ + 1 ≤ _; omega) (K.set1 (c := cI64) Q2 j (Q2.getD (j - 1) 0) (by have := (hk.1.trans hnn); omega)))
      clear hS; intro w l_17 o_18 hS
      have ln_19 : ((Q2.set j (Q2.getD (j - 1) 0))).length = _ := (List.length_set).trans (hk.1.trans hnn)
      replace hS : K.Sat w0 [gc, gx, l_17, fr] w := hS
      refine K.DWM.k 16 (by kernel_rfl) rfl rfl (by kernel_rfl) (by kernel_rfl) rfl (fun w => K.QR.ix (j - 1) 1 rfl rfl rfl Try.underlying23 (by kernel_rfl) (by omega) (by first | (simp; done) | omega | (simp; omega))) (.inr (by kernel_rfl)) ?_
      refine K.DWM.l 17 rfl (by kernel_rfl) (by kernel_rfl) rfl (K.OW.grst 2 (j - 1) [K.iv (Q2.getD j 0)] ((((Q2.set j (Q2.getD (j - 1) 0)).set (j - 1) (Q2.getD j 0))).flatMap cI64) hS o_18 ?_ (by show _ + 1 ≤ _; omega) (K.set1 (c := cI64) (Q2.set j (Q2.getD (j - 1) 0)) (j - 1) (Q2.getD j 0) (by have := ln_19; omega)))
      clear hS; intro w l_20 o_21 hS
      have ln_22 : (((Q2.set j (Q2.getD (j - 1) 0)).set (j - 1) (Q2.getD j 0))).length = _ := (List.length_set).trans ln_19
      replace hS : K.Sat w0 [gc, gx, l_20, fr] w := hS
      refine K.DWM.done (by kernel_rfl) ?_
      refine K.blk_normal ?_
      refine K.t (K.g (K.q [K.iv ((j : Nat) : Int)] ?_))
      refine K.a (K.QR.turn (v := K.iv ((j - 1 : Nat) : Int)) (K.QR.n64 ((((j : Nat) : Int) : Int) - (1 : Int)) ((j - 1 : Nat) : Int) (by kernel_rfl) (by omega)) (congrArg (Value.int .i64) (show (((j - 1 : Nat) : Int) : Int) = (((j - 1 : Nat) : Int) : Int) from by omega))) ?_
      refine K.q [K.iv ((j - 1 : Nat) : Int)] (K.z (K.t ?_))
      refine ⟨_, ?_, j - 1, (swpP Q2 j), l_20, rfl, ⟨by rfl, by rfl, by rfl, by rfl, by rfl, by rfl, by rfl, trivial⟩, (by omega), (hk.swp (by omega) (by omega) (by omega) (cmpI_lt.1 h_16)), (insP_swp hin (by omega) (by omega) (by omega) (cmpI_lt.1 h_16)), o_21, hS.pick [2, 0, 1, 3]⟩
      omega
     ·
      refine K.c 15 rfl (K.QR.nice (v := .bool (decide (((cmpI (keyL L (Q2.getD j 0)) (keyL L (Q2.getD (j - 1) 0))) : Int) < (0 : Int)))) (by kernel_rfl) (congrArg Value.bool (decide_eq_false h_16))) (hS.pick [2]) ?_
      refine K.b 16 rfl (.bool false) (hS.pick [2]) ?_
      refine K.DW.done (by kernel_rfl) ?_
      refine K.t (K.f ?_)
      refine K.KW.exit ?_
      refine K.thn_exit ?_
      refine K.thn_exit ?_
      refine K.blk_hit ?_
      refine K.blk_normal ?_
      refine K.t (K.g (K.q [K.iv ((i : Nat) : Int)] ?_))
      refine K.a (K.QR.n64 ((((i : Nat) : Int) : Int) + (1 : Int)) ((i + 1 : Nat) : Int) (by kernel_rfl) (by omega)) ?_
      refine K.q [K.iv ((i + 1 : Nat) : Int)] (K.z (K.t ?_))
      refine ⟨_, ?_, i + 1, Q2, d2, rfl, ⟨by rfl, by rfl, by rfl, by rfl, by rfl, by rfl, trivial⟩, (by omega), (by omega), (hk), (insP_end hin (by omega) (by omega) (.inr (fun hh => h_16 (cmpI_lt.2 hh)))), x_12, hS.pick [2, 0, 1, 3]⟩
      omega
    ·
     refine K.c 2 rfl (K.QR.nice (v := .bool (decide ((((j : Nat) : Int) : Int) > (((a0 : Nat) : Int) : Int)))) (by kernel_rfl) (congrArg Value.bool (decide_eq_false h_15))) (hS.pick [0]) ?_
     refine K.b 3 rfl (.bool false) (hS.pick [0]) ?_
     refine K.w_ 4 rfl (hS.pick [0]) ?_
     refine K.w_ 5 rfl (hS.pick [0]) ?_
     refine K.w_ 6 rfl (hS.pick [0]) ?_
     refine K.w_ 7 rfl (hS.pick [0]) ?_
     refine K.w_ 8 rfl (hS.pick [0]) ?_
     refine K.w_ 9 rfl (hS.pick [0]) ?_
     refine K.w_ 10 rfl (hS.pick [0]) ?_
     refine K.w_ 11 rfl (hS.pick [0]) ?_
     refine K.w_ 12 rfl (hS.pick [0]) ?_
     refine K.w_ 13 rfl (hS.pick [0]) ?_
     refine K.w_ 14 rfl (hS.pick [0]) ?_
     refine K.w_ 15 rfl (hS.pick [0]) ?_
     refine K.b 16 rfl (.bool false) (hS.pick [0]) ?_
     refine K.DW.done (by kernel_rfl) ?_
     refine K.t (K.f ?_)
     refine K.KW.exit ?_
     refine K.thn_exit ?_
     refine K.thn_exit ?_
     refine K.blk_hit ?_
     refine K.blk_normal ?_
     refine K.t (K.g (K.q [K.iv ((i : Nat) : Int)] ?_))
     refine K.a (K.QR.n64 ((((i : Nat) : Int) : Int) + (1 : Int)) ((i + 1 : Nat) : Int) (by kernel_rfl) (by omega)) ?_
     refine K.q [K.iv ((i + 1 : Nat) : Int)] (K.z (K.t ?_))
     refine ⟨_, ?_, i + 1, Q2, d2, rfl, ⟨by rfl, by rfl, by rfl, by rfl, by rfl, by rfl, trivial⟩, (by omega), (by omega), (hk), (insP_end hin (by omega) (by omega) (.inl (by omega))), x_12, hS.pick [0, 1, 2, 3]⟩
     omega
  ·
   refine K.x ((((i : Nat) : Int) : Int) < (((b0 : Nat) : Int) : Int)) h_7 ?_
   refine K.z (K.t (K.f ?_))
   refine K.KW.exit ?_
   refine K.thn_exit ?_
   refine K.thn_exit ?_
   refine K.blk_hit ?_
   refine ⟨.inl rfl, rfl, (.tuple #[]), K.res0 rfl, [d1, gc, gx], ?_, hS.pick [0, 1, 2, 3]⟩
   exact ⟨_, Q, rfl, x_6, hk0, fun p q h1 h2 h3 => hsr p q h1 h2 (by omega)⟩
end Go.Proofs.Ytnehocjmgnhhhaa

/- Witness: the sort: swapping ranges, rotating. -/
namespace Go.Proofs.Ytnehocjmgnhhhaa
open Go.RowKit
set_option linter.unusedVariables false
attribute [local irreducible] K.KW K.RW K.DW K.OW K.QR K.KC
def swF (P : List Int) (a b i k : Nat) : Int := if a ≤ k ∧ k < a + i then P.getD (k + (b - a)) 0 else if b ≤ k ∧ k < b + i then P.getD (k - (b - a)) 0 else P.getD k 0
def swR (P Q : List Int) (a b n : Nat) : Prop := Q.length = P.length ∧ ∀ k, Q.getD k 0 = swF P a b n k
theorem swR.nil {P : List Int} {a b : Nat} : swR P P a b 0 := ⟨rfl, fun k => by unfold swF; rw [if_neg (by omega), if_neg (by omega)]⟩
theorem swR.step {P Q : List Int} {a b n i : Nat} (h : swR P Q a b i) (hi : i < n) (hab : a + n ≤ b) (hb : b + n ≤ P.length) : swR P ((Q.set (a + i) (Q.getD (b + i) 0)).set (b + i) (Q.getD (a + i) 0)) a b (i + 1) := by
 obtain ⟨h1, h2⟩ := h
 refine ⟨by rw [List.length_set, List.length_set, h1], fun k => ?_⟩
 rw [set_getD (by rw [List.length_set]; omega), set_getD (by omega), h2, h2, h2]
 have e1 : swF P a b i (a + i) = P.getD (a + i) 0 := by unfold swF; rw [if_neg (by omega), if_neg (by omega)]
 have e2 : swF P a b i (b + i) = P.getD (b + i) 0 := by unfold swF; rw [if_neg (by omega), if_neg (by omega)]
 rw [e1, e2]
 unfold swF
 (repeat' split) <;> first | omega | rfl | (congr 1; omega)
def rotF (P : List Int) (a m b t : Nat) : Int := if a ≤ t ∧ t < a + (b - m) then P.getD (t + (m - a)) 0 else if a + (b - m) ≤ t ∧ t < b then P.getD (t - (b - m)) 0 else P.getD t 0
def rotR (P Q : List Int) (a m b : Nat) : Prop := Q.length = P.length ∧ ∀ t, Q.getD t 0 = rotF P a m b t
def rotI (P Q : List Int) (a m b i j : Nat) : Prop := Q.length = P.length ∧ ∀ t, rotF P a m b t = rotF Q (m - i) m (m + j) t
theorem rotI.nil {P : List Int} {a m b : Nat} (h1 : a ≤ m) (h2 : m ≤ b) : rotI P P a m b (m - a) (b - m) := ⟨rfl, fun t => by rw [show m - (m - a) = a by omega, show m + (b - m) = b by omega]⟩
theorem rotI.gt {P Q R : List Int} {a m b i j : Nat} (h : rotI P Q a m b i j) (hi : i ≤ m) (hj : j < i) (hs : swR Q R (m - i) m j) : rotI P R a m b (i - j) j := by
 obtain ⟨h1, h2⟩ := h
 refine ⟨hs.1.trans h1, fun t => ?_⟩
 rw [h2 t]
 unfold rotF
 rw [hs.2, hs.2, hs.2]
 unfold swF
 (repeat' split) <;> first | omega | (congr 1; omega)
theorem rotI.lt {P Q R : List Int} {a m b i j : Nat} (h : rotI P Q a m b i j) (hi : i ≤ m) (hj : i < j) (hs : swR Q R (m - i) (m + j - i) i) : rotI P R a m b i (j - i) := by
 obtain ⟨h1, h2⟩ := h
 refine ⟨hs.1.trans h1, fun t => ?_⟩
 rw [h2 t]
 unfold rotF
 rw [hs.2, hs.2, hs.2]
 unfold swF
 (repeat' split) <;> first | omega | (congr 1; omega)
theorem rotI.fin {P Q R : List Int} {a m b i : Nat} (h : rotI P Q a m b i i) (hi : i ≤ m) (hs : swR Q R (m - i) m i) : rotR P R a m b := by
 obtain ⟨h1, h2⟩ := h
 refine ⟨hs.1.trans h1, fun t => ?_⟩
 rw [h2 t, hs.2]
 unfold rotF swF
 (repeat' split) <;> first | omega | (congr 1; omega)
end Go.Proofs.Ytnehocjmgnhhhaa
