import Derived.Test.YtnehocjmgnhhhaaFso7
import Derived.Test.YtnehocjmgnhhhaaKn
/- Witness: the sort: whole. -/
namespace Go.Proofs.Ytnehocjmgnhhhaa
open Go.RowKit
set_option linter.unusedVariables false
attribute [local irreducible] K.KW K.RW K.DW K.OW K.QR K.KC
theorem sym_ok (w0 : World) (dp : Option Addr) (cp nn : Nat) (hP1 : nn ≤ 1000000)  (bc : Nat) (gc : K.Cs) (a : Option Addr) (cap : Nat) (L : List CallM) (hm : L.length ≤ 1000000) (hgc : gc = [K.pt bc 22 [.slice a L.length cap]]) (gx : K.Cs) (hx : ∀ w, K.Sat w0 [gx] w → K.RowE w a L.length 11 (fun i => cCall (L.getD i call0))) (P : List Int) (gd : K.Cs) (a0 m0 b0 : Nat) (hnn : P.length = nn) (hd : K.OwnG gd 3 1 dp nn cp (P.flatMap cI64)) (ham : a0 < m0) (hmb : m0 < b0) (hb0 : b0 ≤ nn) (hv : valP L P) (hst : stbP L P) (h1 : srtP L P a0 m0) (h2 : srtP L P m0 b0) :
  K.GC Try.prog w0 53 #[.slice dp nn cp, K.iv ((a0 : Nat) : Int), K.iv ((m0 : Nat) : Int), K.iv ((b0 : Nat) : Int), .func (.func 24) [].toArray [K.pa bc].toArray] [gd, gc, gx] (fun v post => ∃ gd' Q, post = [gd', gc, gx] ∧ K.OwnG gd' 3 1 dp nn cp (Q.flatMap cI64) ∧ keepP L P Q a0 b0 ∧ srtP L Q a0 b0) := by
 have key : ∀ f : Nat, ∀ (P : List Int) (gd : K.Cs) (a0 m0 b0 : Nat), P.length = nn → K.OwnG gd 3 1 dp nn cp (P.flatMap cI64) → a0 < m0 → m0 < b0 → b0 ≤ nn → b0 - a0 < f → valP L P → stbP L P → srtP L P a0 m0 → srtP L P m0 b0 → K.GC Try.prog w0 53 #[.slice dp nn cp, K.iv ((a0 : Nat) : Int), K.iv ((m0 : Nat) : Int), K.iv ((b0 : Nat) : Int), .func (.func 24) [].toArray [K.pa bc].toArray] [gd, gc, gx] (fun v post => ∃ gd' Q, post = [gd', gc, gx] ∧ K.OwnG gd' 3 1 dp nn cp (Q.flatMap cI64) ∧ keepP L P Q a0 b0 ∧ srtP L Q a0 b0) := by
  intro f
  induction f with
  | zero => intro P gd a0 m0 b0 _ _ _ _ _ h; omega
  | succ f ih => exact fun P gd a0 m0 b0 g1 g2 g3 g4 g5 g6 g7 g8 g9 g10 => sym_step w0 dp cp nn hP1 bc gc a cap L hm hgc gx hx f ih P gd a0 m0 b0 g1 g2 g3 g4 g5 g6 g7 g8 g9 g10
 exact key (b0 - a0 + 1) P gd a0 m0 b0 hnn hd ham hmb hb0 (by omega) hv hst h1 h2
def blkS (L : List CallM) (Q : List Int) (s n lo hi : Nat) : Prop := ∀ k, lo ≤ k * s → k * s < hi → srtP L Q (k * s) (min (k * s + s) n)
theorem mul_lt_step {j k s : Nat} (h : k * s < j * s) : k * s + s ≤ j * s := by
 have hk : k < j := Nat.lt_of_mul_lt_mul_right h
 have := Nat.mul_le_mul_right s (show k + 1 ≤ j by omega)
 rw [Nat.succ_mul] at this; exact this
theorem blkS.grow {L : List CallM} {Q R : List Int} {s n a j e : Nat} (h : blkS L Q s n 0 a) (ha : a = j * s) (he : a ≤ e) (h2 : e = min (a + s) n) (hk : keepP L Q R a e) (hs : srtP L R a e) : blkS L R s n 0 e := fun k _ hk2 => by
 by_cases hc : k * s < a
 ·have := mul_lt_step (ha ▸ hc)
  exact (h k (Nat.zero_le _) hc).keep hk (.inl (by omega))
 ·have hkj : k * s = a := by
   by_cases hc2 : k * s = j * s
   ·rw [hc2, ha]
   ·have := mul_lt_step (j := k) (k := j) (s := s) (by omega)
    omega
  rw [hkj, ← h2]; exact hs
theorem blkS.rest {L : List CallM} {Q R : List Int} {s n a e : Nat} (h : blkS L Q s n a n) (hk : keepP L Q R a e) (hae : a ≤ e) : blkS L R s n e n := fun k h1 h2 => (h k (by omega) h2).keep hk (.inr h1)
theorem blkS.at0 {L : List CallM} {Q : List Int} {s n a j : Nat} (h : blkS L Q s n a n) (ha : a = j * (2 * s)) (hn : a < n) : srtP L Q a (min (a + s) n) := by
 have e : (2 * j) * s = a := by rw [ha, Nat.mul_comm 2 j, Nat.mul_assoc]
 have := h (2 * j) (by omega) (by omega)
 rw [e] at this; exact this
theorem blkS.at1 {L : List CallM} {Q : List Int} {s n a j : Nat} (h : blkS L Q s n a n) (ha : a = j * (2 * s)) (hn : a + s < n) : srtP L Q (a + s) (min (a + s + s) n) := by
 have e : (2 * j + 1) * s = a + s := by rw [Nat.succ_mul, ha, Nat.mul_comm 2 j, Nat.mul_assoc]
 have := h (2 * j + 1) (by omega) (by omega)
 rw [e] at this; exact this
theorem blkS.all {L : List CallM} {Q : List Int} {s n : Nat} (h : blkS L Q s n 0 n) (hs : n ≤ s) : srtP L Q 0 n := by
 intro p q h1 h2 h3
 have := h 0 (by omega) (by omega)
 rw [Nat.zero_mul, show min (0 + s) n = n by omega] at this
 exact this p q h1 h2 h3
theorem blkS.none {L : List CallM} {Q : List Int} {s n : Nat} : blkS L Q s n 0 0 := fun k _ h => by omega
theorem blkS.end_ {L : List CallM} {P Q : List Int} {s n a j : Nat} (h : blkS L Q (2 * s) n 0 a) (h2 : blkS L Q s n a n) (ha : a = j * (2 * s)) (hn : n ≤ a + s) (han : a ≤ n) (hk : keepP L P Q 0 n) : blkS L Q (2 * s) n 0 n := by
 refine h.grow ha han (by omega) (keepP.refl hk.2.1 hk.2.2.1) ?_
 intro p q h1 h3 h4
 have := h2.at0 ha (by omega)
 rw [show min (a + s) n = n by omega] at this
 exact this p q h1 h3 h4
set_option maxHeartbeats 16000000 in
set_option maxRecDepth 100000 in
theorem stable_ok (w0 : World) (dp : Option Addr) (cp nn : Nat) (P : List Int) (hnn : P.length = nn) (gd : K.Cs) (hd : K.OwnG gd 3 1 dp nn cp (P.flatMap cI64)) (hP1 : nn ≤ 1000000) (bc : Nat) (gc : K.Cs) (a : Option Addr) (cap : Nat) (L : List CallM) (hm : L.length ≤ 1000000) (hgc : gc = [K.pt bc 22 [.slice a L.length cap]]) (gx : K.Cs) (hx : ∀ w, K.Sat w0 [gx] w → K.RowE w a L.length 11 (fun i => cCall (L.getD i call0))) (hv : valP L P) (hst : stbP L P) :
  K.GC Try.prog w0 41 #[.slice dp nn cp, K.iv ((nn : Nat) : Int), .func (.func 24) [].toArray [K.pa bc].toArray] [gd, gc, gx] (fun v post => ∃ gd' Q, post = [gd', gc, gx] ∧ K.OwnG gd' 3 1 dp nn cp (Q.flatMap cI64) ∧ keepP L P Q 0 nn ∧ srtP L Q 0 nn) := by
 refine K.GC.mk (n := 63) Try.func41 rfl rfl [.slice dp nn cp, K.iv ((nn : Nat) : Int), .func (.func 24) [].toArray [K.pa bc].toArray] rfl rfl ?_
 intro fr w hS
 replace hS : K.Sat w0 [gd, gc, gx, fr] w := hS
 refine K.s (K.g (K.q [K.iv 20] (K.z (K.t (K.s (K.g (K.q [K.iv 20, K.iv 0, K.iv 20] (K.z (K.t (K.s ?_))))))))))
 refine K.KW.block ?_
 refine K.KW.loop (fun m_ F_ w_ => ∃ (a0 : Nat) (jj : Nat) (Q : List Int) (d1 : K.Cs), m_ = nn + 20 - a0 ∧ K.Sl F_ [(0, .slice dp nn cp), (1, K.iv ((nn : Nat) : Int)), (2, .func (.func 24) [].toArray [K.pa bc].toArray), (6, K.iv 20), (7, K.iv ((a0 : Nat) : Int)), (8, K.iv ((a0 + 20 : Nat) : Int)), (63, undef)] ∧ a0 ≤ nn ∧ a0 = jj * 20 ∧ keepP L P Q 0 nn ∧ blkS L Q 20 nn 0 a0 ∧ K.OwnG d1 3 1 dp nn cp ((Q).flatMap cI64) ∧ K.Sat w0 [d1, gc, gx, fr] w_) ((fun (a0 : Nat) (jj : Nat) (Q : List Int) => nn + 20 - a0) 0 0 P) ?_ ?_
 ·
  exact ⟨0, 0, P, gd, rfl, ⟨by rfl, by rfl, by rfl, by rfl, by rfl, by rfl, by rfl, trivial⟩, (by omega), (by omega), (keepP.refl hv hst), (blkS.none), hd, hS.pick [0, 1, 2, 3]⟩
 ·
  clear hS
  intro m_1 F_2 w hI
  obtain ⟨a0, jj, Q, d1, rfl, sl_3, p_4, haj, hk, hbs, x_5, hS⟩ := hI
  rw [← K.Sl.puts sl_3]; clear sl_3
  refine K.s (K.s (K.g (K.q [K.iv ((a0 + 20 : Nat) : Int), K.iv ((nn : Nat) : Int)] ?_)))
  by_cases h_6 : (((a0 + 20 : Nat) : Int) : Int) ≤ (((nn : Nat) : Int) : Int)
  ·
   refine K.y ((((a0 + 20 : Nat) : Int) : Int) ≤ (((nn : Nat) : Int) : Int)) h_6 ?_
   refine K.z (K.t (K.h (K.k (K.t ?_))))
   refine K.KW.block ?_
   refine K.s (K.g (K.q [.slice dp nn cp, K.iv ((a0 : Nat) : Int), K.iv ((a0 + 20 : Nat) : Int), .func (.func 24) [].toArray [K.pa bc].toArray] ?_))
   refine K.l (K.OW.gcall hS [0, 1, 2] [3] [.slice dp nn cp, K.iv ((a0 : Nat) : Int), K.iv ((a0 + 20 : Nat) : Int), .func (.func 24) [].toArray [K.pa bc].toArray] (inssort_ok _ dp cp _ Q (hk.1.trans hnn) _ x_5 (by omega) a0 (a0 + 20) (by omega) (by omega) _ _ _ _ _ hm hgc _ hx hk.2.1 hk.2.2.1) ?_)
   clear hS; rintro _ _ w ⟨gd_7, Q_8, rfl, ho_9, hr_10, hs_11⟩ hS
   replace hS : K.Sat w0 [gd_7, gc, gx, fr] w := hS
   refine K.z (K.t (K.s (K.g (K.q [K.iv ((a0 + 20 : Nat) : Int), K.iv ((a0 + 20 : Nat) : Int)] (K.z (K.t (K.g (K.q [K.iv ((a0 + 20 : Nat) : Int), K.iv 20] ?_))))))))
   refine K.a (K.QR.n64 ((((a0 + 20 : Nat) : Int) : Int) + (20 : Int)) ((a0 + 20 + 20 : Nat) : Int) (by kernel_rfl) (by omega)) ?_
   refine K.q [K.iv ((a0 + 20 + 20 : Nat) : Int)] (K.z ?_)
   refine K.blk_normal ?_
   refine K.t ?_
   refine ⟨_, ?_, a0 + 20, jj + 1, Q_8, gd_7, rfl, ⟨by rfl, by rfl, by rfl, by rfl, by rfl, by rfl, by rfl, trivial⟩, (by omega), (by omega), (hk.trans (hr_10.mono (by omega) (by omega))), (hbs.grow haj (by omega) (by omega) hr_10 hs_11), ho_9, hS.pick [0, 1, 2, 3]⟩
   omega
  ·
   refine K.x ((((a0 + 20 : Nat) : Int) : Int) ≤ (((nn : Nat) : Int) : Int)) h_6 ?_
   refine K.z (K.t (K.f ?_))
   refine K.KW.exit ?_
   refine K.thn_exit ?_
   refine K.thn_exit ?_
   refine K.blk_hit ?_
   refine K.t (K.s (K.g (K.q [.slice dp nn cp, K.iv ((a0 : Nat) : Int), K.iv ((nn : Nat) : Int), .func (.func 24) [].toArray [K.pa bc].toArray] ?_)))
   refine K.l (K.OW.gcall hS [0, 1, 2] [3] [.slice dp nn cp, K.iv ((a0 : Nat) : Int), K.iv ((nn : Nat) : Int), .func (.func 24) [].toArray [K.pa bc].toArray] (inssort_ok _ dp cp _ Q (hk.1.trans hnn) _ x_5 (by omega) a0 nn (by omega) (by omega) _ _ _ _ _ hm hgc _ hx hk.2.1 hk.2.2.1) ?_)
   clear hS; rintro _ _ w ⟨gd_12, Q_13, rfl, ho_14, hr_15, hs_16⟩ hS
   replace hS : K.Sat w0 [gd_12, gc, gx, fr] w := hS
   refine K.z (K.t ?_)
   refine K.KW.block ?_
   refine K.KW.loop (fun m_ F_ w_ => ∃ (s0 : Nat) (Q : List Int) (d1 : K.Cs), m_ = 2 * (nn - s0) ∧ K.Sl F_ [(0, .slice dp nn cp), (1, K.iv ((nn : Nat) : Int)), (2, .func (.func 24) [].toArray [K.pa bc].toArray), (6, K.iv ((s0 : Nat) : Int)), (63, undef)] ∧ (0 < s0 ∧ s0 ≤ 2000020) ∧ keepP L P Q 0 nn ∧ blkS L Q s0 nn 0 nn ∧ K.OwnG d1 3 1 dp nn cp ((Q).flatMap cI64) ∧ K.Sat w0 [d1, gc, gx, fr] w_) ((fun (s0 : Nat) (Q : List Int) => 2 * (nn - s0)) 20 Q_13) ?_ ?_
   ·
    exact ⟨20, Q_13, gd_12, rfl, ⟨by rfl, by rfl, by rfl, by rfl, by rfl, trivial⟩, (by omega), (hk.trans (hr_15.mono (by omega) (by omega))), (hbs.grow haj (by omega) (by omega) hr_15 hs_16), ho_14, hS.pick [0, 1, 2, 3]⟩
   ·
    clear hS
    intro m_17 F_18 w hI
    obtain ⟨s0, Q, d1, rfl, sl_19, p_20, hk, hbs, x_21, hS⟩ := hI
    rw [← K.Sl.puts sl_19]; clear sl_19
    refine K.s (K.s (K.g (K.q [K.iv ((s0 : Nat) : Int), K.iv ((nn : Nat) : Int)] ?_)))
    by_cases h_22 : (((s0 : Nat) : Int) : Int) < (((nn : Nat) : Int) : Int)
    ·
     refine K.y ((((s0 : Nat) : Int) : Int) < (((nn : Nat) : Int) : Int)) h_22 ?_
     refine K.z (K.t (K.h (K.k (K.t ?_))))
     refine K.KW.block ?_
     refine K.s (K.g (K.q [K.iv ((s0 : Nat) : Int)] ?_))
     refine K.a (K.QR.n64 ((2 : Int) * (((s0 : Nat) : Int) : Int)) ((2 * s0 : Nat) : Int) (by kernel_rfl) (by omega)) ?_
     refine K.q [K.iv 0, K.iv ((2 * s0 : Nat) : Int)] (K.z (K.t (K.s ?_)))
     refine K.KW.block ?_
     refine K.KW.loop (fun m_ F_ w_ => ∃ (a0 : Nat) (jj : Nat) (Q2 : List Int) (d2 : K.Cs), m_ = nn + 2 * s0 - a0 ∧ K.Sl F_ [(0, .slice dp nn cp), (1, K.iv ((nn : Nat) : Int)), (2, .func (.func 24) [].toArray [K.pa bc].toArray), (6, K.iv ((s0 : Nat) : Int)), (7, K.iv ((a0 : Nat) : Int)), (8, K.iv ((a0 + 2 * s0 : Nat) : Int)), (63, undef)] ∧ a0 ≤ nn ∧ a0 = jj * (2 * s0) ∧ keepP L P Q2 0 nn ∧ blkS L Q2 (2 * s0) nn 0 a0 ∧ blkS L Q2 s0 nn a0 nn ∧ K.OwnG d2 3 1 dp nn cp ((Q2).flatMap cI64) ∧ K.Sat w0 [d2, gc, gx, fr] w_) ((fun (a0 : Nat) (jj : Nat) (Q2 : List Int) => nn + 2 * s0 - a0) 0 0 Q) ?_ ?_
     ·
      exact ⟨0, 0, Q, d1, rfl, ⟨by rfl, by rfl, by rfl, by rfl, by rfl, congrArg (Value.int .i64) (by omega), by rfl, trivial⟩, (by omega), (by omega), (hk), (blkS.none), (hbs), x_21, hS.pick [0, 1, 2, 3]⟩
     ·
      clear hS
      intro m_23 F_24 w hI
      obtain ⟨a0, jj, Q2, d2, rfl, sl_25, p_26, haj, hk, hbb, hba, x_27, hS⟩ := hI
      rw [← K.Sl.puts sl_25]; clear sl_25
      refine K.s (K.s (K.g (K.q [K.iv ((a0 + 2 * s0 : Nat) : Int), K.iv ((nn : Nat) : Int)] ?_)))
      by_cases h_28 : (((a0 + 2 * s0 : Nat) : Int) : Int) ≤ (((nn : Nat) : Int) : Int)
      ·
       refine K.y ((((a0 + 2 * s0 : Nat) : Int) : Int) ≤ (((nn : Nat) : Int) : Int)) h_28 ?_
       refine K.z (K.t (K.h (K.k (K.t ?_))))
       refine K.KW.block ?_
       refine K.s (K.g (K.q [.slice dp nn cp, K.iv ((a0 : Nat) : Int), K.iv ((a0 : Nat) : Int), K.iv ((s0 : Nat) : Int)] ?_))
       refine K.a (K.QR.n64 ((((a0 : Nat) : Int) : Int) + (((s0 : Nat) : Int) : Int)) ((a0 + s0 : Nat) : Int) (by kernel_rfl) (by omega)) ?_
       refine K.q [K.iv ((a0 + 2 * s0 : Nat) : Int), .func (.func 24) [].toArray [K.pa bc].toArray] ?_
       refine K.l (K.OW.gcall hS [0, 1, 2] [3] [.slice dp nn cp, K.iv ((a0 : Nat) : Int), K.iv ((a0 + s0 : Nat) : Int), K.iv ((a0 + 2 * s0 : Nat) : Int), .func (.func 24) [].toArray [K.pa bc].toArray] (sym_ok _ dp cp _ (by omega) _ _ _ _ _ hm hgc _ hx Q2 _ a0 (a0 + s0) (a0 + 2 * s0) (hk.1.trans hnn) x_27 (by omega) (by omega) (by omega) hk.2.1 hk.2.2.1 (by have hz := hba.at0 haj (by omega); rw [show min (a0 + s0) nn = a0 + s0 by omega] at hz; exact hz) (by have hz := hba.at1 haj (by omega); rw [show min (a0 + s0 + s0) nn = a0 + 2 * s0 by omega] at hz; exact hz)) ?_)
       clear hS; rintro _ _ w ⟨gd_29, Q_30, rfl, ho_31, hr_32, hs_33⟩ hS
       replace hS : K.Sat w0 [gd_29, gc, gx, fr] w := hS
       refine K.z (K.t (K.s (K.g (K.q [K.iv ((a0 + 2 * s0 : Nat) : Int), K.iv ((a0 + 2 * s0 : Nat) : Int)] (K.z (K.t (K.g (K.q [K.iv ((a0 + 2 * s0 : Nat) : Int), K.iv ((s0 : Nat) : Int)] ?_))))))))
       refine K.a (K.QR.n64 ((2 : Int) * (((s0 : Nat) : Int) : Int)) ((2 * s0 : Nat) : Int) (by kernel_rfl) (by omega)) ?_
       refine K.a (K.QR.n64 ((((a0 + 2 * s0 : Nat) : Int) : Int) + (((2 * s0 : Nat) : Int) : Int)) ((a0 + 2 * s0 + 2 * s0 : Nat) : Int) (by kernel_rfl) (by omega)) ?_
       refine K.q [K.iv ((a0 + 2 * s0 + 2 * s0 : Nat) : Int)] (K.z ?_)
       refine K.blk_normal ?_
       refine K.t ?_
       refine ⟨_, ?_, a0 + 2 * s0, jj + 1, Q_30, gd_29, rfl, ⟨by rfl, by rfl, by rfl, by rfl, by rfl, by rfl, by rfl, trivial⟩, (by omega), (by rw [Nat.succ_mul jj, ← haj]), (hk.trans (hr_32.mono (by omega) (by omega))), (hbb.grow haj (by omega) (by omega) hr_32 hs_33), (hba.rest hr_32 (by omega)), ho_31, hS.pick [0, 1, 2, 3]⟩
       omega
      ·
       refine K.x ((((a0 + 2 * s0 : Nat) : Int) : Int) ≤ (((nn : Nat) : Int) : Int)) h_28 ?_
       refine K.z (K.t (K.f ?_))
       refine K.KW.exit ?_
       refine K.thn_exit ?_
       refine K.thn_exit ?_
       refine K.blk_hit ?_
       refine K.t (K.s (K.s (K.g (K.q [K.iv ((a0 : Nat) : Int), K.iv ((s0 : Nat) : Int)] ?_))))
       refine K.a (K.QR.n64 ((((a0 : Nat) : Int) : Int) + (((s0 : Nat) : Int) : Int)) ((a0 + s0 : Nat) : Int) (by kernel_rfl) (by omega)) ?_
       refine K.q [K.iv ((a0 + s0 : Nat) : Int)] (K.z (K.t (K.s (K.g (K.q [K.iv ((a0 + s0 : Nat) : Int), K.iv ((nn : Nat) : Int)] ?_)))))
       by_cases h_34 : (((a0 + s0 : Nat) : Int) : Int) < (((nn : Nat) : Int) : Int)
       ·
        refine K.y ((((a0 + s0 : Nat) : Int) : Int) < (((nn : Nat) : Int) : Int)) h_34 ?_
        refine K.z (K.t (K.h (K.g (K.q [.slice dp nn cp, K.iv ((a0 : Nat) : Int), K.iv ((a0 + s0 : Nat) : Int), K.iv ((nn : Nat) : Int), .func (.func 24) [].toArray [K.pa bc].toArray] ?_))))
        refine K.l (K.OW.gcall hS [0, 1, 2] [3] [.slice dp nn cp, K.iv ((a0 : Nat) : Int), K.iv ((a0 + s0 : Nat) : Int), K.iv ((nn : Nat) : Int), .func (.func 24) [].toArray [K.pa bc].toArray] (sym_ok _ dp cp _ (by omega) _ _ _ _ _ hm hgc _ hx Q2 _ a0 (a0 + s0) nn (hk.1.trans hnn) x_27 (by omega) (by omega) (by omega) hk.2.1 hk.2.2.1 (by have hz := hba.at0 haj (by omega); rw [show min (a0 + s0) nn = a0 + s0 by omega] at hz; exact hz) (by have hz := hba.at1 haj (by omega); rw [show min (a0 + s0 + s0) nn = nn by omega] at hz; exact hz)) ?_)
        clear hS; rintro _ _ w ⟨gd_35, Q_36, rfl, ho_37, hr_38, hs_39⟩ hS
        replace hS : K.Sat w0 [gd_35, gc, gx, fr] w := hS
        refine K.z (K.t (K.g (K.q [K.iv ((s0 : Nat) : Int)] ?_)))
        refine K.a (K.QR.turn (v := K.iv ((s0 * 2 : Nat) : Int)) (K.QR.n64 ((((s0 : Nat) : Int) : Int) * (2 : Int)) ((s0 * 2 : Nat) : Int) (by kernel_rfl) (by omega)) (congrArg (Value.int .i64) (show (((s0 * 2 : Nat) : Int) : Int) = (((2 * s0 : Nat) : Int) : Int) from by omega))) ?_
        refine K.q [K.iv ((2 * s0 : Nat) : Int)] (K.z ?_)
        refine K.blk_normal ?_
        refine K.t ?_
        refine ⟨_, ?_, 2 * s0, Q_36, gd_35, rfl, ⟨by rfl, by rfl, by rfl, by rfl, by rfl, trivial⟩, (by omega), (hk.trans (hr_38.mono (by omega) (by omega))), (hbb.grow haj (by omega) (by omega) hr_38 hs_39), ho_37, hS.pick [0, 1, 2, 3]⟩
        omega
       ·
        refine K.x ((((a0 + s0 : Nat) : Int) : Int) < (((nn : Nat) : Int) : Int)) h_34 ?_
        refine K.z (K.t (K.f (K.k (K.t (K.g (K.q [K.iv ((s0 : Nat) : Int)] ?_))))))
        refine K.a (K.QR.turn (v := K.iv ((s0 * 2 : Nat) : Int)) (K.QR.n64 ((((s0 : Nat) : Int) : Int) * (2 : Int)) ((s0 * 2 : Nat) : Int) (by kernel_rfl) (by omega)) (congrArg (Value.int .i64) (show (((s0 * 2 : Nat) : Int) : Int) = (((2 * s0 : Nat) : Int) : Int) from by omega))) ?_
        refine K.q [K.iv ((2 * s0 : Nat) : Int)] (K.z ?_)
        refine K.blk_normal ?_
        refine K.t ?_
        refine ⟨_, ?_, 2 * s0, Q2, d2, rfl, ⟨by rfl, by rfl, by rfl, by rfl, by rfl, trivial⟩, (by omega), (hk), (blkS.end_ hbb hba haj (by omega) (by omega) hk), x_27, hS.pick [0, 1, 2, 3]⟩
        omega
    ·
     refine K.x ((((s0 : Nat) : Int) : Int) < (((nn : Nat) : Int) : Int)) h_22 ?_
     refine K.z (K.t (K.f ?_))
     refine K.KW.exit ?_
     refine K.thn_exit ?_
     refine K.thn_exit ?_
     refine K.blk_hit ?_
     refine ⟨.inl rfl, rfl, (.tuple #[]), K.res0 rfl, [d1, gc, gx], ?_, hS.pick [0, 1, 2, 3]⟩
     exact ⟨_, _, rfl, x_21, hk, hbs.all (by omega)⟩
end Go.Proofs.Ytnehocjmgnhhhaa
