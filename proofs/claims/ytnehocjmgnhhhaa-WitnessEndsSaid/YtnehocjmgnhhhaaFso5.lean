import Derived.Test.YtnehocjmgnhhhaaFso4
import Derived.Test.YtnehocjmgnhhhaaKn
/- Witness: the sort: swapping ranges, rotating. -/
namespace Go.Proofs.Ytnehocjmgnhhhaa
open Go.RowKit
set_option linter.unusedVariables false
attribute [local irreducible] K.KW K.RW K.DW K.OW K.QR K.KC
set_option maxHeartbeats 4000000 in
set_option maxRecDepth 100000 in
theorem swr_ok (w0 : World) (dp : Option Addr) (cp nn : Nat) (P : List Int) (hnn : P.length = nn) (gd : K.Cs) (hd : K.OwnG gd 3 1 dp nn cp (P.flatMap cI64)) (hP1 : nn ≤ 1000000) (a0 b0 n0 : Nat) (hab : a0 + n0 ≤ b0) (hb0 : b0 + n0 ≤ nn) (bc : Nat)  :
  K.GC Try.prog w0 77 #[.slice dp nn cp, K.iv ((a0 : Nat) : Int), K.iv ((b0 : Nat) : Int), K.iv ((n0 : Nat) : Int), .func (.func 24) [].toArray [K.pa bc].toArray] [gd] (fun v post => ∃ gd' Q, post = [gd'] ∧ K.OwnG gd' 3 1 dp nn cp (Q.flatMap cI64) ∧ swR P Q a0 b0 n0) := by
 refine K.GC.mk (n := 38) Try.func77 rfl rfl [.slice dp nn cp, K.iv ((a0 : Nat) : Int), K.iv ((b0 : Nat) : Int), K.iv ((n0 : Nat) : Int), .func (.func 24) [].toArray [K.pa bc].toArray] rfl rfl ?_
 intro fr w hS
 replace hS : K.Sat w0 [gd, fr] w := hS
 refine K.s (K.g (K.q [K.iv 0] (K.z (K.t ?_))))
 refine K.KW.block ?_
 refine K.KW.loop (fun m_ F_ w_ => ∃ (i : Nat) (Q : List Int) (d1 : K.Cs), m_ = n0 - i ∧ K.Sl F_ [(0, .slice dp nn cp), (1, K.iv ((a0 : Nat) : Int)), (2, K.iv ((b0 : Nat) : Int)), (3, K.iv ((n0 : Nat) : Int)), (4, .func (.func 24) [].toArray [K.pa bc].toArray), (10, K.iv ((i : Nat) : Int)), (38, undef)] ∧ i ≤ n0 ∧ swR P Q a0 b0 i ∧ K.OwnG d1 3 1 dp nn cp ((Q).flatMap cI64) ∧ K.Sat w0 [d1, fr] w_) ((fun (i : Nat) (Q : List Int) => n0 - i) 0 P) ?_ ?_
 ·
  exact ⟨0, P, gd, rfl, ⟨by rfl, by rfl, by rfl, by rfl, by rfl, by rfl, by rfl, trivial⟩, (by omega), (swR.nil), hd, hS.pick [0, 1]⟩
 ·
  clear hS
  intro m_1 F_2 w hI
  obtain ⟨i, Q, d1, rfl, sl_3, p_4, hk, x_5, hS⟩ := hI
  rw [← K.Sl.puts sl_3]; clear sl_3
  refine K.s (K.s (K.g (K.q [K.iv ((i : Nat) : Int), K.iv ((n0 : Nat) : Int)] ?_)))
  by_cases h_6 : (((i : Nat) : Int) : Int) < (((n0 : Nat) : Int) : Int)
  ·
   refine K.y ((((i : Nat) : Int) : Int) < (((n0 : Nat) : Int) : Int)) h_6 ?_
   refine K.z (K.t (K.h (K.k (K.t (K.s ?_)))))
   refine K.KW.block ?_
   have hQl := hk.1
   obtain ⟨b_7, rfl⟩ := x_5.some_ (by have := x_5.le; omega)
   refine K.KW.gdrawnM [0] [21, 23] hS (by kernel_rfl) ?_
   clear hS; intro w hS
   refine K.DWM.k 0 (by kernel_rfl) rfl rfl (by kernel_rfl) (by kernel_rfl) rfl (fun w => K.QR.k (v := .slice (some ⟨b_7, 0, none⟩) nn cp) (by kernel_rfl)) (.inl (hS.pick [0])) ?_
   refine K.DWM.k 1 (by kernel_rfl) rfl rfl (by kernel_rfl) (by kernel_rfl) rfl (fun w => K.QR.k (v := K.iv ((a0 : Nat) : Int)) (by kernel_rfl)) (.inl (hS.pick [0])) ?_
   refine K.DWM.k 2 (by kernel_rfl) rfl rfl (by kernel_rfl) (by kernel_rfl) rfl (fun w => K.QR.k (v := K.iv ((i : Nat) : Int)) (by kernel_rfl)) (.inl (hS.pick [0])) ?_
   refine K.DWM.k 3 (by kernel_rfl) rfl rfl (by kernel_rfl) (by kernel_rfl) rfl (fun w => K.QR.turn (v := K.iv ((a0 + i : Nat) : Int)) (K.QR.n64 ((((a0 : Nat) : Int) : Int) + (((i : Nat) : Int) : Int)) ((a0 + i : Nat) : Int) (by kernel_rfl) (by omega)) (congrArg (Value.int .i64) (show (((a0 + i : Nat) : Int) : Int) = (((a0 + i : Nat) : Int) : Int) from by omega))) (.inl (hS.pick [0])) ?_
   refine K.DWM.k 4 (by kernel_rfl) rfl rfl (by kernel_rfl) (by kernel_rfl) rfl (fun w => K.QR.k (v := .slice (some ⟨b_7, 0, none⟩) nn cp) (by kernel_rfl)) (.inl (hS.pick [0])) ?_
   refine K.DWM.k 5 (by kernel_rfl) rfl rfl (by kernel_rfl) (by kernel_rfl) rfl (fun w => K.QR.k (v := K.iv ((b0 : Nat) : Int)) (by kernel_rfl)) (.inl (hS.pick [0])) ?_
   refine K.DWM.k 6 (by kernel_rfl) rfl rfl (by kernel_rfl) (by kernel_rfl) rfl (fun w => K.QR.k (v := K.iv ((i : Nat) : Int)) (by kernel_rfl)) (.inl (hS.pick [0])) ?_
   refine K.DWM.k 7 (by kernel_rfl) rfl rfl (by kernel_rfl) (by kernel_rfl) rfl (fun w => K.QR.turn (v := K.iv ((b0 + i : Nat) : Int)) (K.QR.n64 ((((b0 : Nat) : Int) : Int) + (((i : Nat) : Int) : Int)) ((b0 + i : Nat) : Int) (by kernel_rfl) (by omega)) (congrArg (Value.int .i64) (show (((b0 + i : Nat) : Int) : Int) = (((b0 + i : Nat) : Int) : Int) from by omega))) (.inl (hS.pick [0])) ?_
   refine K.DWM.k 8 (by kernel_rfl) rfl rfl (by kernel_rfl) (by kernel_rfl) rfl (fun w => K.QR.k (v := .slice (some ⟨b_7, 0, none⟩) nn cp) (by kernel_rfl)) (.inl (hS.pick [0])) ?_
   refine K.DWM.k 9 (by kernel_rfl) rfl rfl (by kernel_rfl) (by kernel_rfl) rfl (fun w => K.QR.k (v := K.iv ((b0 : Nat) : Int)) (by kernel_rfl)) (.inl (hS.pick [0])) ?_
   refine K.DWM.k 10 (by kernel_rfl) rfl rfl (by kernel_rfl) (by kernel_rfl) rfl (fun w => K.QR.k (v := K.iv ((i : Nat) : Int)) (by kernel_rfl)) (.inl (hS.pick [0])) ?_
   refine K.DWM.k 11 (by kernel_rfl) rfl rfl (by kernel_rfl) (by kernel_rfl) rfl (fun w => K.QR.turn (v := K.iv ((b0 + i : Nat) : Int)) (K.QR.n64 ((((b0 : Nat) : Int) : Int) + (((i : Nat) : Int) : Int)) ((b0 + i : Nat) : Int) (by kernel_rfl) (by omega)) (congrArg (Value.int .i64) (show (((b0 + i : Nat) : Int) : Int) = (((b0 + i : Nat) : Int) : Int) from by omega))) (.inl (hS.pick [0])) ?_
   refine K.DWM.k 12 (by kernel_rfl) rfl rfl (by kernel_rfl) (by kernel_rfl) rfl (fun w => K.QR.ix (b0 + i) 1 rfl rfl rfl Try.underlying23 (by kernel_rfl) (by omega) (by first | (simp; done) | omega | (simp; omega))) (.inl (hS.pick [0])) ?_
   refine K.DWM.q 13 (by kernel_rfl) rfl rfl (by kernel_rfl) (by kernel_rfl) (by kernel_rfl) rfl (fun w hS => K.QR.ld1 (v := K.iv (Q.getD (b0 + i) 0)) rfl rfl (by kernel_rfl) (K.Own.atS (c := cI64) (d := 0) (fun _ => rfl) (hS.ownr 0 rfl x_5) (hk.1.trans hnn) (b0 + i) (by omega))) (hS.pick [0]) ?_
   refine K.DWM.k 14 (by kernel_rfl) rfl rfl (by kernel_rfl) (by kernel_rfl) rfl (fun w => K.QR.k (v := .slice (some ⟨b_7, 0, none⟩) nn cp) (by kernel_rfl)) (.inl (hS.pick [0])) ?_
   refine K.DWM.k 15 (by kernel_rfl) rfl rfl (by kernel_rfl) (by kernel_rfl) rfl (fun w => K.QR.k (v := K.iv ((a0 : Nat) : Int)) (by kernel_rfl)) (.inl (hS.pick [0])) ?_
   refine K.DWM.k 16 (by kernel_rfl) rfl rfl (by kernel_rfl) (by kernel_rfl) rfl (fun w => K.QR.k (v := K.iv ((i : Nat) : Int)) (by kernel_rfl)) (.inl (hS.pick [0])) ?_
   refine K.DWM.k 17 (by kernel_rfl) rfl rfl (by kernel_rfl) (by kernel_rfl) rfl (fun w => K.QR.turn (v := K.iv ((a0 + i : Nat) : Int)) (K.QR.n64 ((((a0 : Nat) : Int) : Int) + (((i : Nat) : Int) : Int)) ((a0 + i : Nat) : Int) (by kernel_rfl) (by omega)) (congrArg (Value.int .i64) (show (((a0 + i : Nat) : Int) : Int) = (((a0 + i : Nat) : Int) : Int) from by omega))) (.inl (hS.pick [0])) ?_
   refine K.DWM.k 18 (by kernel_rfl) rfl rfl (by kernel_rfl) (by kernel_rfl) rfl (fun w => K.QR.ix (a0 + i) 1 rfl rfl rfl Try.underlying23 (by kernel_rfl) (by omega) (by first | (simp; done) | omega | (simp; omega))) (.inl (hS.pick [0])) ?_
   refine K.DWM.q 19 (by kernel_rfl) rfl rfl (by kernel_rfl) (by kernel_rfl) (by kernel_rfl) rfl (fun w hS => K.QR.ld1 (v := K.iv (Q.getD (a0 + i) 0)) rfl rfl (by kernel_rfl) (K.Own.atS (c := cI64) (d := 0) (fun _ => rfl) (hS.ownr 0 rfl x_5) (hk.1.trans hnn) (a0 + i) (by omega))) (hS.pick [0]) ?_
   refine K.DWM.k 20 (by kernel_rfl) rfl rfl (by kernel_rfl) (by kernel_rfl) rfl (fun w => K.QR.ix (a0 + i) 1 rfl rfl rfl Try.underlying23 (by kernel_rfl) (by omega) (by first | (simp; done) | omega | (simp; omega))) (.inl (hS.pick [0])) ?_
   refine K.DWM.l 21 rfl (by kernel_rfl) (by kernel_rfl) rfl (K.OW.grst 0 (a0 + i) [K.iv (Q.getD (b0 + i) 0)] (((Q.set (a0 + i) (Q.getD (b0 + i) 0))).flatMap cI64) hS x_5 ?_ (by show _ + 1 ≤ _; omega) (K.set1 (c := cI64) Q (a0 + i) (Q.getD (b0 + i) 0) (by have := (hk.1.trans hnn); omega)))
   clear hS; intro w l_9 o_10 hS
   have ln_11 : ((Q.set (a0 + i) (Q.getD (b0 + i) 0))).length = _ := (List.length_set).trans (hk.1.trans hnn)
   replace hS : K.Sat w0 [l_9, fr] w := hS
   refine K.DWM.k 22 (by kernel_rfl) rfl rfl (by kernel_rfl) (by kernel_rfl) rfl (fun w => K.QR.ix (b0 + i) 1 rfl rfl rfl Try.underlying23 (by kernel_rfl) (by omega) (by first | (simp; done) | omega | (simp; omega))) (.inr (by kernel_rfl)) ?_
   refine K.DWM.l 23 rfl (by kernel_rfl) (by kernel_rfl) rfl (K.OW.grst 0 (b0 + i) [K.iv (Q.getD (a0 + i) 0)] ((((Q.set (a0 + i) (Q.getD (b0 + i) 0)).set (b0 + i) (Q.getD (a0 + i) 0))).flatMap cI64) hS o_10 ?_ (by show _ + 1 ≤ _; omega) (K.set1 (c := cI64) (Q.set (a0 + i) (Q.getD (b0 + i) 0)) (b0 + i) (Q.getD (a0 + i) 0) (by have := ln_11; omega)))
   clear hS; intro w l_12 o_13 hS
   have ln_14 : (((Q.set (a0 + i) (Q.getD (b0 + i) 0)).set (b0 + i) (Q.getD (a0 + i) 0))).length = _ := (List.length_set).trans ln_11
   replace hS : K.Sat w0 [l_12, fr] w := hS
   refine K.DWM.done (by kernel_rfl) ?_
   refine K.blk_normal ?_
   refine K.t (K.g (K.q [K.iv ((i : Nat) : Int)] ?_))
   refine K.a (K.QR.n64 ((((i : Nat) : Int) : Int) + (1 : Int)) ((i + 1 : Nat) : Int) (by kernel_rfl) (by omega)) ?_
   refine K.q [K.iv ((i + 1 : Nat) : Int)] (K.z (K.t ?_))
   refine ⟨_, ?_, i + 1, ((Q.set (a0 + i) (Q.getD (b0 + i) 0)).set (b0 + i) (Q.getD (a0 + i) 0)), l_12, rfl, ⟨by rfl, by rfl, by rfl, by rfl, by rfl, by rfl, by rfl, trivial⟩, (by omega), (hk.step (by omega) hab (by omega)), o_13, hS.pick [0, 1]⟩
   omega
  ·
   refine K.x ((((i : Nat) : Int) : Int) < (((n0 : Nat) : Int) : Int)) h_6 ?_
   refine K.z (K.t (K.f ?_))
   refine K.KW.exit ?_
   refine K.thn_exit ?_
   refine K.thn_exit ?_
   refine K.blk_hit ?_
   refine ⟨.inl rfl, rfl, (.tuple #[]), K.res0 rfl, [d1], ?_, hS.pick [0, 1]⟩
   exact ⟨_, Q, rfl, x_5, (by obtain rfl : i = n0 := (by omega); exact hk)⟩
set_option maxHeartbeats 4000000 in
set_option maxRecDepth 100000 in
theorem rot_ok (w0 : World) (dp : Option Addr) (cp nn : Nat) (P : List Int) (hnn : P.length = nn) (gd : K.Cs) (hd : K.OwnG gd 3 1 dp nn cp (P.flatMap cI64)) (hP1 : nn ≤ 1000000) (a0 m0 b0 : Nat) (ham : a0 < m0) (hmb : m0 < b0) (hb0 : b0 ≤ nn) (bc : Nat)  :
  K.GC Try.prog w0 66 #[.slice dp nn cp, K.iv ((a0 : Nat) : Int), K.iv ((m0 : Nat) : Int), K.iv ((b0 : Nat) : Int), .func (.func 24) [].toArray [K.pa bc].toArray] [gd] (fun v post => ∃ gd' Q, post = [gd'] ∧ K.OwnG gd' 3 1 dp nn cp (Q.flatMap cI64) ∧ rotR P Q a0 m0 b0) := by
 refine K.GC.mk (n := 58) Try.func66 rfl rfl [.slice dp nn cp, K.iv ((a0 : Nat) : Int), K.iv ((m0 : Nat) : Int), K.iv ((b0 : Nat) : Int), .func (.func 24) [].toArray [K.pa bc].toArray] rfl rfl ?_
 intro fr w hS
 replace hS : K.Sat w0 [gd, fr] w := hS
 refine K.s (K.g (K.q [K.iv ((m0 : Nat) : Int), K.iv ((a0 : Nat) : Int)] ?_))
 refine K.a (K.QR.turn (v := K.iv ((((m0 : Nat) : Int) : Int) - (((a0 : Nat) : Int) : Int))) (K.QR.n64 ((((m0 : Nat) : Int) : Int) - (((a0 : Nat) : Int) : Int)) ((((m0 : Nat) : Int) : Int) - (((a0 : Nat) : Int) : Int)) (by kernel_rfl) (by omega)) (congrArg (Value.int .i64) (show ((((m0 : Nat) : Int) : Int) - (((a0 : Nat) : Int) : Int) : Int) = (((m0 - a0 : Nat) : Int) : Int) from by omega))) ?_
 refine K.q [K.iv ((m0 - a0 : Nat) : Int)] (K.z (K.t (K.s (K.g (K.q [K.iv ((b0 : Nat) : Int), K.iv ((m0 : Nat) : Int)] ?_)))))
 refine K.a (K.QR.turn (v := K.iv ((((b0 : Nat) : Int) : Int) - (((m0 : Nat) : Int) : Int))) (K.QR.n64 ((((b0 : Nat) : Int) : Int) - (((m0 : Nat) : Int) : Int)) ((((b0 : Nat) : Int) : Int) - (((m0 : Nat) : Int) : Int)) (by kernel_rfl) (by omega)) (congrArg (Value.int .i64) (show ((((b0 : Nat) : Int) : Int) - (((m0 : Nat) : Int) : Int) : Int) = (((b0 - m0 : Nat) : Int) : Int) from by omega))) ?_
 refine K.q [K.iv ((b0 - m0 : Nat) : Int)] (K.z (K.t (K.s ?_)))
 refine K.KW.block ?_
 refine K.KW.loop (fun m_ F_ w_ => ∃ (i : Nat) (j : Nat) (Q : List Int) (d1 : K.Cs), m_ = i + j ∧ K.Sl F_ [(0, .slice dp nn cp), (1, K.iv ((a0 : Nat) : Int)), (2, K.iv ((m0 : Nat) : Int)), (3, K.iv ((b0 : Nat) : Int)), (4, .func (.func 24) [].toArray [K.pa bc].toArray), (10, K.iv ((i : Nat) : Int)), (11, K.iv ((j : Nat) : Int)), (58, undef)] ∧ (0 < i ∧ i ≤ m0 - a0) ∧ (0 < j ∧ j ≤ b0 - m0) ∧ rotI P Q a0 m0 b0 i j ∧ K.OwnG d1 3 1 dp nn cp ((Q).flatMap cI64) ∧ K.Sat w0 [d1, fr] w_) ((fun (i : Nat) (j : Nat) (Q : List Int) => i + j) (m0 - a0) (b0 - m0) P) ?_ ?_
 ·
  exact ⟨(m0 - a0), (b0 - m0), P, gd, rfl, ⟨by rfl, by rfl, by rfl, by rfl, by rfl, by rfl, by rfl, by rfl, trivial⟩, (by omega), (by omega), (rotI.nil (by omega) (by omega)), hd, hS.pick [0, 1]⟩
 ·
  clear hS
  intro m_1 F_2 w hI
  obtain ⟨i, j, Q, d1, rfl, sl_3, p_4, p_5, hk, x_6, hS⟩ := hI
  rw [← K.Sl.puts sl_3]; clear sl_3
  refine K.s (K.s (K.g (K.q [K.iv ((i : Nat) : Int), K.iv ((j : Nat) : Int)] ?_)))
  by_cases h_7 : (((i : Nat) : Int) : Int) = (((j : Nat) : Int) : Int)
  ·
   refine K.xn (((i : Nat) : Int) : Int) (((j : Nat) : Int) : Int) h_7 ?_
   refine K.z (K.t (K.f ?_))
   refine K.KW.exit ?_
   refine K.thn_exit ?_
   refine K.thn_exit ?_
   refine K.blk_hit ?_
   refine K.t (K.g (K.q [.slice dp nn cp, K.iv ((m0 : Nat) : Int), K.iv ((i : Nat) : Int)] ?_))
   refine K.a (K.QR.turn (v := K.iv ((((m0 : Nat) : Int) : Int) - (((i : Nat) : Int) : Int))) (K.QR.n64 ((((m0 : Nat) : Int) : Int) - (((i : Nat) : Int) : Int)) ((((m0 : Nat) : Int) : Int) - (((i : Nat) : Int) : Int)) (by kernel_rfl) (by omega)) (congrArg (Value.int .i64) (show ((((m0 : Nat) : Int) : Int) - (((i : Nat) : Int) : Int) : Int) = (((m0 - i : Nat) : Int) : Int) from by omega))) ?_
   refine K.q [K.iv ((m0 : Nat) : Int), K.iv ((i : Nat) : Int), .func (.func 24) [].toArray [K.pa bc].toArray] ?_
   refine K.l (K.OW.gcall hS [0] [1] [.slice dp nn cp, K.iv ((m0 - i : Nat) : Int), K.iv ((m0 : Nat) : Int), K.iv ((i : Nat) : Int), .func (.func 24) [].toArray [K.pa bc].toArray] (swr_ok _ dp cp _ Q (hk.1.trans hnn) _ x_6 (by omega) (m0 - i) m0 i (by omega) (by omega) bc) ?_)
   clear hS; rintro _ _ w ⟨gd_8, Q_9, rfl, ho_10, hr_11⟩ hS
   replace hS : K.Sat w0 [gd_8, fr] w := hS
   refine K.z ?_
   refine ⟨.inl rfl, rfl, (.tuple #[]), K.res0 rfl, [gd_8], ?_, hS.pick [0, 1]⟩
   exact ⟨_, _, rfl, ho_10, (by obtain rfl : i = j := (by omega); exact hk.fin (by omega) hr_11)⟩
  ·
   refine K.yn (((i : Nat) : Int) : Int) (((j : Nat) : Int) : Int) h_7 ?_
   refine K.z (K.t (K.h (K.k (K.t ?_))))
   refine K.KW.block ?_
   refine K.s (K.g (K.q [K.iv ((i : Nat) : Int), K.iv ((j : Nat) : Int)] ?_))
   by_cases h_12 : (((i : Nat) : Int) : Int) > (((j : Nat) : Int) : Int)
   ·
    refine K.y ((((i : Nat) : Int) : Int) > (((j : Nat) : Int) : Int)) h_12 ?_
    refine K.z (K.t (K.h (K.s (K.g (K.q [.slice dp nn cp, K.iv ((m0 : Nat) : Int), K.iv ((i : Nat) : Int)] ?_)))))
    refine K.a (K.QR.turn (v := K.iv ((((m0 : Nat) : Int) : Int) - (((i : Nat) : Int) : Int))) (K.QR.n64 ((((m0 : Nat) : Int) : Int) - (((i : Nat) : Int) : Int)) ((((m0 : Nat) : Int) : Int) - (((i : Nat) : Int) : Int)) (by kernel_rfl) (by omega)) (congrArg (Value.int .i64) (show ((((m0 : Nat) : Int) : Int) - (((i : Nat) : Int) : Int) : Int) = (((m0 - i : Nat) : Int) : Int) from by omega))) ?_
    refine K.q [K.iv ((m0 : Nat) : Int), K.iv ((j : Nat) : Int), .func (.func 24) [].toArray [K.pa bc].toArray] ?_
    refine K.l (K.OW.gcall hS [0] [1] [.slice dp nn cp, K.iv ((m0 - i : Nat) : Int), K.iv ((m0 : Nat) : Int), K.iv ((j : Nat) : Int), .func (.func 24) [].toArray [K.pa bc].toArray] (swr_ok _ dp cp _ Q (hk.1.trans hnn) _ x_6 (by omega) (m0 - i) m0 j (by omega) (by omega) bc) ?_)
    clear hS; rintro _ _ w ⟨gd_13, Q_14, rfl, ho_15, hr_16⟩ hS
    replace hS : K.Sat w0 [gd_13, fr] w := hS
    refine K.z (K.t (K.g (K.q [K.iv ((i : Nat) : Int), K.iv ((j : Nat) : Int)] ?_)))
    refine K.a (K.QR.turn (v := K.iv ((((i : Nat) : Int) : Int) - (((j : Nat) : Int) : Int))) (K.QR.n64 ((((i : Nat) : Int) : Int) - (((j : Nat) : Int) : Int)) ((((i : Nat) : Int) : Int) - (((j : Nat) : Int) : Int)) (by kernel_rfl) (by omega)) (congrArg (Value.int .i64) (show ((((i : Nat) : Int) : Int) - (((j : Nat) : Int) : Int) : Int) = (((i - j : Nat) : Int) : Int) from by omega))) ?_
    refine K.q [K.iv ((i - j : Nat) : Int)] (K.z ?_)
    refine K.blk_normal ?_
    refine K.t ?_
    refine ⟨_, ?_, i - j, j, Q_14, gd_13, rfl, ⟨by rfl, by rfl, by rfl, by rfl, by rfl, by rfl, by rfl, by rfl, trivial⟩, (by omega), (by omega), (hk.gt (by omega) (by omega) hr_16), ho_15, hS.pick [0, 1]⟩
    omega
   ·
    refine K.x ((((i : Nat) : Int) : Int) > (((j : Nat) : Int) : Int)) h_12 ?_
    refine K.z (K.t (K.f (K.s (K.g (K.q [.slice dp nn cp, K.iv ((m0 : Nat) : Int), K.iv ((i : Nat) : Int)] ?_)))))
    refine K.a (K.QR.turn (v := K.iv ((((m0 : Nat) : Int) : Int) - (((i : Nat) : Int) : Int))) (K.QR.n64 ((((m0 : Nat) : Int) : Int) - (((i : Nat) : Int) : Int)) ((((m0 : Nat) : Int) : Int) - (((i : Nat) : Int) : Int)) (by kernel_rfl) (by omega)) (congrArg (Value.int .i64) (show ((((m0 : Nat) : Int) : Int) - (((i : Nat) : Int) : Int) : Int) = (((m0 - i : Nat) : Int) : Int) from by omega))) ?_
    refine K.q [K.iv ((m0 : Nat) : Int), K.iv ((j : Nat) : Int)] ?_
    refine K.a (K.QR.turn (v := K.iv ((m0 + j : Nat) : Int)) (K.QR.n64 ((((m0 : Nat) : Int) : Int) + (((j : Nat) : Int) : Int)) ((m0 + j : Nat) : Int) (by kernel_rfl) (by omega)) (congrArg (Value.int .i64) (show (((m0 + j : Nat) : Int) : Int) = (((m0 + j : Nat) : Int) : Int) from by omega))) ?_
    refine K.q [K.iv ((i : Nat) : Int)] ?_
    refine K.a (K.QR.turn (v := K.iv ((((m0 + j : Nat) : Int) : Int) - (((i : Nat) : Int) : Int))) (K.QR.n64 ((((m0 + j : Nat) : Int) : Int) - (((i : Nat) : Int) : Int)) ((((m0 + j : Nat) : Int) : Int) - (((i : Nat) : Int) : Int)) (by kernel_rfl) (by omega)) (congrArg (Value.int .i64) (show ((((m0 + j : Nat) : Int) : Int) - (((i : Nat) : Int) : Int) : Int) = (((m0 + j - i : Nat) : Int) : Int) from by omega))) ?_
    refine K.q [K.iv ((i : Nat) : Int), .func (.func 24) [].toArray [K.pa bc].toArray] ?_
    refine K.l (K.OW.gcall hS [0] [1] [.slice dp nn cp, K.iv ((m0 - i : Nat) : Int), K.iv ((m0 + j - i : Nat) : Int), K.iv ((i : Nat) : Int), .func (.func 24) [].toArray [K.pa bc].toArray] (swr_ok _ dp cp _ Q (hk.1.trans hnn) _ x_6 (by omega) (m0 - i) (m0 + j - i) i (by omega) (by omega) bc) ?_)
    clear hS; rintro _ _ w ⟨gd_17, Q_18, rfl, ho_19, hr_20⟩ hS
    replace hS : K.Sat w0 [gd_17, fr] w := hS
    refine K.z (K.t (K.g (K.q [K.iv ((j : Nat) : Int), K.iv ((i : Nat) : Int)] ?_)))
    refine K.a (K.QR.turn (v := K.iv ((((j : Nat) : Int) : Int) - (((i : Nat) : Int) : Int))) (K.QR.n64 ((((j : Nat) : Int) : Int) - (((i : Nat) : Int) : Int)) ((((j : Nat) : Int) : Int) - (((i : Nat) : Int) : Int)) (by kernel_rfl) (by omega)) (congrArg (Value.int .i64) (show ((((j : Nat) : Int) : Int) - (((i : Nat) : Int) : Int) : Int) = (((j - i : Nat) : Int) : Int) from by omega))) ?_
    refine K.q [K.iv ((j - i : Nat) : Int)] (K.z ?_)
    refine K.blk_normal ?_
    refine K.t ?_
    refine ⟨_, ?_, i, j - i, Q_18, gd_17, rfl, ⟨by rfl, by rfl, by rfl, by rfl, by rfl, by rfl, by rfl, by rfl, trivial⟩, (by omega), (by omega), (hk.lt (by omega) (by omega) hr_20), ho_19, hS.pick [0, 1]⟩
    omega
end Go.Proofs.Ytnehocjmgnhhhaa
