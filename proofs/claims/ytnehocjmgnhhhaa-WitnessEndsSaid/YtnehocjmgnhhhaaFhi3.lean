import Derived.Test.YtnehocjmgnhhhaaFhi2
import Derived.Test.YtnehocjmgnhhhaaKn
/- Histories: orders that respect what was over. -/
namespace Go.Proofs.Ytnehocjmgnhhhaa
open Go.RowKit
set_option linter.unusedVariables false
attribute [local irreducible] K.KW K.RW K.DW K.OW K.QR K.KC
def rsp1 (L : List CallM) (P : List Int) (i : Nat) : Prop := (0 ≤ P.getD i 0 ∧ P.getD i 0 < (L.length : Int)) ∧ ∀ k, k < i → ¬ aheadH (L.getD (P.getD i 0).toNat call0) (L.getD (P.getD k 0).toNat call0)
def rspP (L : List CallM) (P : List Int) : Prop := ∀ i, i < P.length → rsp1 L P i
set_option maxHeartbeats 4000000 in
set_option maxRecDepth 100000 in
theorem rsp_ok (w0 : World) (a b : Option Addr) (ca cb : Nat) (L : List CallM) (P : List Int) (hm : L.length ≤ 1000000) (hp : P.length ≤ 1000000) (gx : K.Cs) (hx : ∀ w, K.Sat w0 [gx] w → K.RowE w a L.length 11 (fun i => cCall (L.getD i call0))) (gp : K.Cs) (hpx : ∀ w, K.Sat w0 [gp] w → K.RowE w b P.length 1 (fun i => cI64 (P.getD i 0))) (hcb : P.length ≤ cb) :
  K.GC Try.prog w0 10 #[.slice a L.length ca, .slice b P.length cb] [gx, gp] (fun v post => post = [gx, gp] ∧ ((rspP L P ∧ v = .bool true) ∨ (¬ (rspP L P) ∧ v = .bool false))) := by
 refine K.GC.mk (n := 43) Try.func10 rfl rfl [.slice a L.length ca, .slice b P.length cb] rfl rfl ?_
 intro fr w hS
 replace hS : K.Sat w0 [gx, gp, fr] w := hS
 refine K.s (K.g (K.q [.bool false] (K.z (K.t (K.s (K.s (K.g (K.q [.slice b P.length cb] ?_))))))))
 refine K.a (K.QR.len (P := Try.prog) rfl rfl Try.underlying23) ?_
 refine K.q [K.iv 0] (K.z (K.t ?_))
 refine K.KW.block ?_
 refine K.KW.loop (fun m_ F_ w_ => ∃ (i : Nat), m_ = P.length - i ∧ K.Sl F_ [(0, .slice a L.length ca), (1, .slice b P.length cb), (9, .slice b P.length cb), (10, K.iv ((P.length : Nat) : Int)), (11, K.iv ((i : Nat) : Int)), (43, undef)] ∧ i ≤ P.length ∧ (∀ q, q < i → rsp1 L P q) ∧ K.Sat w0 [gx, gp, fr] w_) ((fun (i : Nat) => P.length - i) 0) ?_ ?_
 ·
  exact ⟨0, rfl, ⟨by rfl, by rfl, by rfl, by rfl, by rfl, by rfl, trivial⟩, (by omega), (fun q hq => by omega), hS.pick [0, 1, 2]⟩
 ·
  clear hS
  intro m_1 F_2 w hI
  obtain ⟨i, rfl, sl_3, p_4, hrs, hS⟩ := hI
  rw [← K.Sl.puts sl_3]; clear sl_3
  refine K.s (K.g ?_)
  by_cases h_5 : (((i : Nat) : Int) : Int) < (((P.length : Nat) : Int) : Int)
  ·
   refine K.y ((((i : Nat) : Int) : Int) < (((P.length : Nat) : Int) : Int)) h_5 ?_
   refine K.z (K.t (K.s (K.h (K.k (K.t (K.s ?_))))))
   refine K.KW.block ?_
   refine K.s ?_
   obtain ⟨b_6, of_7, rfl, _⟩ := (hpx _ (hS.pick [1])).at_ (by omega)
   refine K.g (K.q [K.iv ((i : Nat) : Int)] ?_)
   refine K.a (K.QR.ix (of_7 + i * 1) 1 rfl rfl rfl Try.underlying23 (by kernel_rfl) (by omega) (by first | (simp; done) | omega | (simp; omega))) ?_
   refine K.d (K.iv (P.getD i 0)) ((hpx _ (hS.pick [1])).ld i (by omega) 0 _ rfl) ?_
   refine K.q [K.iv ((i : Nat) : Int), K.iv (P.getD i 0)] (K.z (K.t (K.s (K.s (K.g (K.q [K.iv (P.getD i 0)] ?_))))))
   by_cases h_8 : (P.getD i 0 : Int) < (0 : Int)
   ·
    refine K.y ((P.getD i 0 : Int) < (0 : Int)) h_8 ?_
    refine K.q [.bool true] (K.n_ (K.n_ (K.n_ (K.n_ (K.q [.bool true] (K.z (K.t (K.h (K.s (K.g (K.q [.bool false] (K.z (K.t (K.r ?_))))))))))))))
    refine K.u ?_
    refine K.blk_ret ?_
    refine K.u (K.u ?_)
    refine K.blk_ret ?_
    refine K.u ?_
    refine ⟨.inr rfl, rfl, (.bool false), K.res1 rfl rfl, [gx, gp], ?_, hS.pick [0, 1, 2]⟩
    exact ⟨rfl, .inr ⟨fun hh => by have h9 := (hh i (by omega)).1; omega, rfl⟩⟩
   ·
    refine K.x ((P.getD i 0 : Int) < (0 : Int)) h_8 ?_
    refine K.q [.bool false, K.iv (P.getD i 0), .slice a L.length ca] ?_
    refine K.a (K.QR.len (P := Try.prog) rfl rfl Try.underlying22) ?_
    by_cases h_9 : (P.getD i 0 : Int) ≥ (((L.length : Nat) : Int) : Int)
    ·
     refine K.y ((P.getD i 0 : Int) ≥ (((L.length : Nat) : Int) : Int)) h_9 ?_
     refine K.q [.bool true] (K.z (K.t (K.h (K.s (K.g (K.q [.bool false] (K.z (K.t (K.r (K.u ?_))))))))))
     refine K.blk_ret ?_
     refine K.u (K.u ?_)
     refine K.blk_ret ?_
     refine K.u ?_
     refine ⟨.inr rfl, rfl, (.bool false), K.res1 rfl rfl, [gx, gp], ?_, hS.pick [0, 1, 2]⟩
     exact ⟨rfl, .inr ⟨fun hh => by have h9 := (hh i (by omega)).1; omega, rfl⟩⟩
    ·
     refine K.x ((P.getD i 0 : Int) ≥ (((L.length : Nat) : Int) : Int)) h_9 ?_
     refine K.q [.bool false] (K.z (K.t (K.f (K.k (K.t (K.s (K.g (K.q [.slice (some ⟨b_6, of_7, none⟩) P.length cb, K.iv ((i : Nat) : Int)] ?_))))))))
     refine K.a (K.QR.slHi (size := 1) i rfl rfl rfl Try.underlying23 (by kernel_rfl) (by omega)) ?_
     refine K.a (K.QR.len (P := Try.prog) rfl rfl Try.underlying23) ?_
     refine K.q [K.iv 0] (K.z (K.t ?_))
     refine K.KW.block ?_
     refine K.KW.loop (fun m_ F_ w_ => ∃ (k : Nat), m_ = i - k ∧ K.Sl F_ [(0, .slice a L.length ca), (1, .slice (some ⟨b_6, of_7, none⟩) P.length cb), (6, K.iv (P.getD i 0)), (9, .slice (some ⟨b_6, of_7, none⟩) P.length cb), (10, K.iv ((P.length : Nat) : Int)), (11, K.iv ((i : Nat) : Int)), (26, .slice (some ⟨b_6, of_7, none⟩) i cb), (27, K.iv ((i : Nat) : Int)), (28, K.iv ((k : Nat) : Int)), (43, undef)] ∧ k ≤ i ∧ (∀ q, q < k → ¬ aheadH (L.getD (P.getD i 0).toNat call0) (L.getD (P.getD q 0).toNat call0)) ∧ K.Sat w0 [gx, gp, fr] w_) ((fun (k : Nat) => i - k) 0) ?_ ?_
     ·
      exact ⟨0, rfl, ⟨by rfl, by rfl, by rfl, by rfl, by rfl, by rfl, by rfl, by rfl, by rfl, by rfl, trivial⟩, (by omega), (fun q hq => by omega), hS.pick [0, 1, 2]⟩
     ·
      clear hS
      intro m_10 F_11 w hI
      obtain ⟨k, rfl, sl_12, p_13, hnk, hS⟩ := hI
      rw [← K.Sl.puts sl_12]; clear sl_12
      refine K.s (K.g ?_)
      by_cases h_14 : (((k : Nat) : Int) : Int) < (((i : Nat) : Int) : Int)
      ·
       refine K.y ((((k : Nat) : Int) : Int) < (((i : Nat) : Int) : Int)) h_14 ?_
       refine K.z (K.t (K.s (K.h (K.k (K.t (K.s ?_))))))
       refine K.KW.block ?_
       refine K.s (K.g ?_)
       refine K.a (K.QR.ix (of_7 + k * 1) 1 rfl rfl rfl Try.underlying23 (by kernel_rfl) (by omega) (by first | (simp; done) | omega | (simp; omega))) ?_
       refine K.d (K.iv (P.getD k 0)) ((hpx _ (hS.pick [1])).ld k (by omega) 0 _ rfl) ?_
       refine K.q [K.iv (P.getD k 0)] (K.z (K.t (K.s ?_)))
       have hqk := hrs k (by omega)
       have hqk1 := hqk.1
       obtain ⟨b_15, of_16, rfl, _⟩ := (hx _ (hS.pick [0])).at_ (by omega)
       refine K.KW.gdrawn [0] hS (by kernel_rfl) ?_
       clear hS; intro w hS
       refine K.p 0 rfl (.slice (some ⟨b_15, of_16, none⟩) L.length ca) (hS.pick [0]) ?_
       refine K.p 1 rfl (K.iv (P.getD i 0)) (hS.pick [0]) ?_
       refine K.m 2 rfl (fun w hS => K.QR.ix (of_16 + ((P.getD i 0).toNat) * 11) 11 rfl rfl rfl Try.underlying22 (by kernel_rfl) (by omega) (by first | (simp; done) | omega | (simp; omega))) (hS.pick [0]) ?_
       refine K.m 3 rfl (fun w hS => K.QR.ldN [K.iv ((L.getD ((P.getD i 0).toNat) call0).th), K.iv ((L.getD ((P.getD i 0).toNat) call0).ok), .int .u32 ((L.getD ((P.getD i 0).toNat) call0).key), .int .u32 ((L.getD ((P.getD i 0).toNat) call0).val), K.iv ((L.getD ((P.getD i 0).toNat) call0).rk), .int .u32 ((L.getD ((P.getD i 0).toNat) call0).rv), K.iv ((L.getD ((P.getD i 0).toNat) call0).beg), K.iv ((L.getD ((P.getD i 0).toNat) call0).en), K.iv ((L.getD ((P.getD i 0).toNat) call0).wh), .bool ((L.getD ((P.getD i 0).toNat) call0).cr), .bool ((L.getD ((P.getD i 0).toNat) call0).kp)] rfl rfl (by kernel_rfl) (by kernel_rfl) (K.cells (K.cl ((hx _ (hS.pick [0])).ld ((P.getD i 0).toNat) (by omega) 0 _ rfl) (K.cl ((hx _ (hS.pick [0])).ld ((P.getD i 0).toNat) (by omega) 1 _ rfl) (K.cl ((hx _ (hS.pick [0])).ld ((P.getD i 0).toNat) (by omega) 2 _ rfl) (K.cl ((hx _ (hS.pick [0])).ld ((P.getD i 0).toNat) (by omega) 3 _ rfl) (K.cl ((hx _ (hS.pick [0])).ld ((P.getD i 0).toNat) (by omega) 4 _ rfl) (K.cl ((hx _ (hS.pick [0])).ld ((P.getD i 0).toNat) (by omega) 5 _ rfl) (K.cl ((hx _ (hS.pick [0])).ld ((P.getD i 0).toNat) (by omega) 6 _ rfl) (K.cl ((hx _ (hS.pick [0])).ld ((P.getD i 0).toNat) (by omega) 7 _ rfl) (K.cl ((hx _ (hS.pick [0])).ld ((P.getD i 0).toNat) (by omega) 8 _ rfl) (K.cl ((hx _ (hS.pick [0])).ld ((P.getD i 0).toNat) (by omega) 9 _ rfl) (K.cl ((hx _ (hS.pick [0])).ld ((P.getD i 0).toNat) (by omega) 10 _ rfl) K.cl0))))))))))))) (hS.pick [0]) ?_
       refine K.p 4 rfl (.slice (some ⟨b_15, of_16, none⟩) L.length ca) (hS.pick [0]) ?_
       refine K.b 5 rfl (K.iv (P.getD k 0)) (hS.pick [0]) ?_
       refine K.c 6 rfl (K.QR.ix (of_16 + ((P.getD k 0).toNat) * 11) 11 rfl rfl rfl Try.underlying22 (by kernel_rfl) (by omega) (by first | (simp; done) | omega | (simp; omega))) (hS.pick [0]) ?_
       refine K.c 7 rfl (K.QR.ldN [K.iv ((L.getD ((P.getD k 0).toNat) call0).th), K.iv ((L.getD ((P.getD k 0).toNat) call0).ok), .int .u32 ((L.getD ((P.getD k 0).toNat) call0).key), .int .u32 ((L.getD ((P.getD k 0).toNat) call0).val), K.iv ((L.getD ((P.getD k 0).toNat) call0).rk), .int .u32 ((L.getD ((P.getD k 0).toNat) call0).rv), K.iv ((L.getD ((P.getD k 0).toNat) call0).beg), K.iv ((L.getD ((P.getD k 0).toNat) call0).en), K.iv ((L.getD ((P.getD k 0).toNat) call0).wh), .bool ((L.getD ((P.getD k 0).toNat) call0).cr), .bool ((L.getD ((P.getD k 0).toNat) call0).kp)] rfl rfl (by kernel_rfl) (by kernel_rfl) (K.cells (K.cl ((hx _ (hS.pick [0])).ld ((P.getD k 0).toNat) (by omega) 0 _ rfl) (K.cl ((hx _ (hS.pick [0])).ld ((P.getD k 0).toNat) (by omega) 1 _ rfl) (K.cl ((hx _ (hS.pick [0])).ld ((P.getD k 0).toNat) (by omega) 2 _ rfl) (K.cl ((hx _ (hS.pick [0])).ld ((P.getD k 0).toNat) (by omega) 3 _ rfl) (K.cl ((hx _ (hS.pick [0])).ld ((P.getD k 0).toNat) (by omega) 4 _ rfl) (K.cl ((hx _ (hS.pick [0])).ld ((P.getD k 0).toNat) (by omega) 5 _ rfl) (K.cl ((hx _ (hS.pick [0])).ld ((P.getD k 0).toNat) (by omega) 6 _ rfl) (K.cl ((hx _ (hS.pick [0])).ld ((P.getD k 0).toNat) (by omega) 7 _ rfl) (K.cl ((hx _ (hS.pick [0])).ld ((P.getD k 0).toNat) (by omega) 8 _ rfl) (K.cl ((hx _ (hS.pick [0])).ld ((P.getD k 0).toNat) (by omega) 9 _ rfl) (K.cl ((hx _ (hS.pick [0])).ld ((P.getD k 0).toNat) (by omega) 10 _ rfl) K.cl0))))))))))))) (hS.pick [0]) ?_
       refine K.DW.l 8 rfl (by kernel_rfl) rfl (K.OW.gcall hS [] [0, 1, 2] [.agg #[K.iv ((L.getD ((P.getD i 0).toNat) call0).th), K.iv ((L.getD ((P.getD i 0).toNat) call0).ok), .int .u32 ((L.getD ((P.getD i 0).toNat) call0).key), .int .u32 ((L.getD ((P.getD i 0).toNat) call0).val), K.iv ((L.getD ((P.getD i 0).toNat) call0).rk), .int .u32 ((L.getD ((P.getD i 0).toNat) call0).rv), K.iv ((L.getD ((P.getD i 0).toNat) call0).beg), K.iv ((L.getD ((P.getD i 0).toNat) call0).en), K.iv ((L.getD ((P.getD i 0).toNat) call0).wh), .bool ((L.getD ((P.getD i 0).toNat) call0).cr), .bool ((L.getD ((P.getD i 0).toNat) call0).kp)], .agg #[K.iv ((L.getD ((P.getD k 0).toNat) call0).th), K.iv ((L.getD ((P.getD k 0).toNat) call0).ok), .int .u32 ((L.getD ((P.getD k 0).toNat) call0).key), .int .u32 ((L.getD ((P.getD k 0).toNat) call0).val), K.iv ((L.getD ((P.getD k 0).toNat) call0).rk), .int .u32 ((L.getD ((P.getD k 0).toNat) call0).rv), K.iv ((L.getD ((P.getD k 0).toNat) call0).beg), K.iv ((L.getD ((P.getD k 0).toNat) call0).en), K.iv ((L.getD ((P.getD k 0).toNat) call0).wh), .bool ((L.getD ((P.getD k 0).toNat) call0).cr), .bool ((L.getD ((P.getD k 0).toNat) call0).kp)]] (ahead_ok _ (L.getD ((P.getD i 0).toNat) call0) (L.getD ((P.getD k 0).toNat) call0)) ?_)
       clear hS; rintro _ _ w ⟨rfl, (⟨h_17, rfl⟩ | ⟨h_18, rfl⟩)⟩ hS
       ·
        replace hS : K.Sat w0 [gx, gp, fr] w := hS
        refine ⟨.inl (hS.pick [0]), ?_⟩
        refine K.DW.done (by kernel_rfl) ?_
        refine K.t (K.h (K.s (K.g (K.q [.bool false] (K.z (K.t (K.r ?_)))))))
        refine K.blk_ret ?_
        refine K.u (K.u ?_)
        refine K.blk_ret ?_
        refine K.blk_ret ?_
        refine K.u (K.u ?_)
        refine K.blk_ret ?_
        refine K.u ?_
        refine ⟨.inr rfl, rfl, (.bool false), K.res1 rfl rfl, [gx, gp], ?_, hS.pick [0, 1, 2]⟩
        exact ⟨rfl, .inr ⟨fun hh => (hh i (by omega)).2 k (by omega) h_17, rfl⟩⟩
       ·
        replace hS : K.Sat w0 [gx, gp, fr] w := hS
        refine ⟨.inl (hS.pick [0]), ?_⟩
        refine K.DW.done (by kernel_rfl) ?_
        refine K.t (K.f (K.k ?_))
        refine K.blk_normal ?_
        refine K.t (K.g ?_)
        refine K.a (K.QR.n64 ((((k : Nat) : Int) : Int) + (1 : Int)) ((k + 1 : Nat) : Int) (by kernel_rfl) (by omega)) ?_
        refine K.q [K.iv ((k + 1 : Nat) : Int)] (K.z (K.t ?_))
        refine ⟨_, ?_, k + 1, rfl, ⟨by rfl, by rfl, by rfl, by rfl, by rfl, by rfl, by rfl, by rfl, by rfl, by rfl, trivial⟩, (by omega), (K.all_snoc hnk h_18), hS.pick [0, 1, 2]⟩
        omega
      ·
       refine K.x ((((k : Nat) : Int) : Int) < (((i : Nat) : Int) : Int)) h_14 ?_
       refine K.z (K.t (K.s (K.f ?_)))
       refine K.KW.exit ?_
       refine K.thn_exit ?_
       refine K.thn_exit ?_
       refine K.blk_hit ?_
       refine K.blk_normal ?_
       refine K.t (K.g ?_)
       refine K.a (K.QR.n64 ((((i : Nat) : Int) : Int) + (1 : Int)) ((i + 1 : Nat) : Int) (by kernel_rfl) (by omega)) ?_
       refine K.q [K.iv ((i + 1 : Nat) : Int)] (K.z (K.t ?_))
       refine ⟨_, ?_, i + 1, rfl, ⟨by rfl, by rfl, by rfl, by rfl, by rfl, by rfl, trivial⟩, (by omega), (K.all_snoc hrs ⟨by omega, fun q hq => hnk q (by omega)⟩), hS.pick [0, 1, 2]⟩
       omega
  ·
   refine K.x ((((i : Nat) : Int) : Int) < (((P.length : Nat) : Int) : Int)) h_5 ?_
   refine K.z (K.t (K.s (K.f ?_)))
   refine K.KW.exit ?_
   refine K.thn_exit ?_
   refine K.thn_exit ?_
   refine K.blk_hit ?_
   refine K.t (K.s (K.g (K.q [.bool true] (K.z (K.t (K.r ?_))))))
   refine ⟨.inr rfl, rfl, (.bool true), K.res1 rfl rfl, [gx, gp], ?_, hS.pick [0, 1, 2]⟩
   exact ⟨rfl, .inl ⟨fun q hq => hrs q (by omega), rfl⟩⟩
set_option maxHeartbeats 4000000 in
set_option maxRecDepth 100000 in
theorem drsp_ok (w0 : World) (a b : Option Addr) (ca cb : Nat) (L : List CallM) (P : List Int) (hm : L.length ≤ 1000000) (hp : P.length ≤ 1000000) (gx : K.Cs) (hx : ∀ w, K.Sat w0 [gx] w → K.RowE w a L.length 11 (fun i => cCall (L.getD i call0))) (gp : K.Cs) (hpx : ∀ w, K.Sat w0 [gp] w → K.RowE w b P.length 1 (fun i => cI64 (P.getD i 0))) (hcb : P.length ≤ cb) :
  K.GC Try.prog w0 11 #[.slice a L.length ca, .slice b P.length cb] [gx, gp] (fun v post => post = [gx, gp] ∧ ((rspP L P ∧ v = .bool true) ∨ (¬ (rspP L P) ∧ v = .bool false))) := by
 refine K.GC.mk (n := 47) Try.func11 rfl rfl [.slice a L.length ca, .slice b P.length cb] rfl rfl ?_
 intro fr w hS
 replace hS : K.Sat w0 [gx, gp, fr] w := hS
 refine K.s (K.g (K.q [.bool false] (K.z (K.t (K.s (K.s (K.g (K.q [K.iv 0] (K.z (K.t ?_))))))))))
 refine K.KW.block ?_
 refine K.KW.loop (fun m_ F_ w_ => ∃ (i : Nat), m_ = P.length - i ∧ K.Sl F_ [(0, .slice a L.length ca), (1, .slice b P.length cb), (5, K.iv ((i : Nat) : Int)), (47, undef)] ∧ i ≤ P.length ∧ (∀ q, q < i → rsp1 L P q) ∧ K.Sat w0 [gx, gp, fr] w_) ((fun (i : Nat) => P.length - i) 0) ?_ ?_
 ·
  exact ⟨0, rfl, ⟨by rfl, by rfl, by rfl, by rfl, trivial⟩, (by omega), (fun q hq => by omega), hS.pick [0, 1, 2]⟩
 ·
  clear hS
  intro m_1 F_2 w hI
  obtain ⟨i, rfl, sl_3, p_4, hrs, hS⟩ := hI
  rw [← K.Sl.puts sl_3]; clear sl_3
  refine K.s (K.s (K.g (K.q [K.iv ((i : Nat) : Int), .slice b P.length cb] ?_)))
  refine K.a (K.QR.len (P := Try.prog) rfl rfl Try.underlying23) ?_
  by_cases h_5 : (((i : Nat) : Int) : Int) < (((P.length : Nat) : Int) : Int)
  ·
   refine K.y ((((i : Nat) : Int) : Int) < (((P.length : Nat) : Int) : Int)) h_5 ?_
   refine K.z (K.t (K.h (K.k (K.t (K.s ?_)))))
   refine K.KW.block ?_
   refine K.s (K.s ?_)
   obtain ⟨b_6, of_7, rfl, _⟩ := (hpx _ (hS.pick [1])).at_ (by omega)
   refine K.g (K.q [.slice (some ⟨b_6, of_7, none⟩) P.length cb, K.iv ((i : Nat) : Int)] ?_)
   refine K.a (K.QR.ix (of_7 + i * 1) 1 rfl rfl rfl Try.underlying23 (by kernel_rfl) (by omega) (by first | (simp; done) | omega | (simp; omega))) ?_
   refine K.d (K.iv (P.getD i 0)) ((hpx _ (hS.pick [1])).ld i (by omega) 0 _ rfl) ?_
   by_cases h_8 : (P.getD i 0 : Int) < (0 : Int)
   ·
    refine K.y ((P.getD i 0 : Int) < (0 : Int)) h_8 ?_
    refine K.q [.bool true] (K.n_ (K.n_ (K.n_ (K.n_ (K.n_ (K.n_ (K.n_ (K.q [.bool true] (K.z (K.t (K.h (K.s (K.g (K.q [.bool false] ?_))))))))))))))
    refine K.z (K.t (K.r (K.u ?_)))
    refine K.blk_ret ?_
    refine K.u (K.u ?_)
    refine K.blk_ret ?_
    refine K.u ?_
    refine ⟨.inr rfl, rfl, (.bool false), K.res1 rfl rfl, [gx, gp], ?_, hS.pick [0, 1, 2]⟩
    exact ⟨rfl, .inr ⟨fun hh => by have h9 := (hh i (by omega)).1; omega, rfl⟩⟩
   ·
    refine K.x ((P.getD i 0 : Int) < (0 : Int)) h_8 ?_
    refine K.q [.bool false, .slice (some ⟨b_6, of_7, none⟩) P.length cb, K.iv ((i : Nat) : Int)] ?_
    refine K.a (K.QR.ix (of_7 + i * 1) 1 rfl rfl rfl Try.underlying23 (by kernel_rfl) (by omega) (by first | (simp; done) | omega | (simp; omega))) ?_
    refine K.d (K.iv (P.getD i 0)) ((hpx _ (hS.pick [1])).ld i (by omega) 0 _ rfl) ?_
    refine K.q [.slice a L.length ca] ?_
    refine K.a (K.QR.len (P := Try.prog) rfl rfl Try.underlying22) ?_
    by_cases h_9 : (P.getD i 0 : Int) ≥ (((L.length : Nat) : Int) : Int)
    ·
     refine K.y ((P.getD i 0 : Int) ≥ (((L.length : Nat) : Int) : Int)) h_9 ?_
     refine K.q [.bool true] (K.z (K.t (K.h (K.s (K.g (K.q [.bool false] (K.z (K.t (K.r (K.u ?_))))))))))
     refine K.blk_ret ?_
     refine K.u (K.u ?_)
     refine K.blk_ret ?_
     refine K.u ?_
     refine ⟨.inr rfl, rfl, (.bool false), K.res1 rfl rfl, [gx, gp], ?_, hS.pick [0, 1, 2]⟩
     exact ⟨rfl, .inr ⟨fun hh => by have h9 := (hh i (by omega)).1; omega, rfl⟩⟩
    ·
     refine K.x ((P.getD i 0 : Int) ≥ (((L.length : Nat) : Int) : Int)) h_9 ?_
     refine K.q [.bool false] (K.z (K.t (K.f (K.k (K.t (K.s (K.g (K.q [K.iv 0] (K.z (K.t ?_))))))))))
     refine K.KW.block ?_
     refine K.KW.loop (fun m_ F_ w_ => ∃ (k : Nat), m_ = i - k ∧ K.Sl F_ [(0, .slice a L.length ca), (1, .slice (some ⟨b_6, of_7, none⟩) P.length cb), (5, K.iv ((i : Nat) : Int)), (6, K.iv ((k : Nat) : Int)), (47, undef)] ∧ k ≤ i ∧ (∀ q, q < k → ¬ aheadH (L.getD (P.getD i 0).toNat call0) (L.getD (P.getD q 0).toNat call0)) ∧ K.Sat w0 [gx, gp, fr] w_) ((fun (k : Nat) => i - k) 0) ?_ ?_
     ·
      exact ⟨0, rfl, ⟨by rfl, by rfl, by rfl, by rfl, by rfl, trivial⟩, (by omega), (fun q hq => by omega), hS.pick [0, 1, 2]⟩
     ·
      clear hS
      intro m_10 F_11 w hI
      obtain ⟨k, rfl, sl_12, p_13, hnk, hS⟩ := hI
      rw [← K.Sl.puts sl_12]; clear sl_12
      refine K.s (K.s (K.g (K.q [K.iv ((k : Nat) : Int), K.iv ((i : Nat) : Int)] ?_)))
      by_cases h_14 : (((k : Nat) : Int) : Int) < (((i : Nat) : Int) : Int)
      ·
       refine K.y ((((k : Nat) : Int) : Int) < (((i : Nat) : Int) : Int)) h_14 ?_
       refine K.z (K.t (K.h (K.k (K.t (K.s ?_)))))
       refine K.KW.block ?_
       refine K.s ?_
       have hqk := hrs k (by omega)
       have hqk1 := hqk.1
       obtain ⟨b_15, of_16, rfl, _⟩ := (hx _ (hS.pick [0])).at_ (by omega)
       refine K.KW.gdrawn [0, 1] hS (by kernel_rfl) ?_
       clear hS; intro w hS
       refine K.p 0 rfl (.slice (some ⟨b_15, of_16, none⟩) L.length ca) (hS.pick [0, 1]) ?_
       refine K.p 1 rfl (.slice (some ⟨b_6, of_7, none⟩) P.length cb) (hS.pick [0, 1]) ?_
       refine K.p 2 rfl (K.iv ((i : Nat) : Int)) (hS.pick [0, 1]) ?_
       refine K.m 3 rfl (fun w hS => K.QR.ix (of_7 + i * 1) 1 rfl rfl rfl Try.underlying23 (by kernel_rfl) (by omega) (by first | (simp; done) | omega | (simp; omega))) (hS.pick [0, 1]) ?_
       refine K.o_ 4 rfl (K.iv (P.getD i 0)) (fun w hS => ((hpx _ (hS.pick [1])).ld i (by omega) 0 _ rfl)) (hS.pick [0, 1]) ?_
       refine K.m 5 rfl (fun w hS => K.QR.ix (of_16 + ((P.getD i 0).toNat) * 11) 11 rfl rfl rfl Try.underlying22 (by kernel_rfl) (by omega) (by first | (simp; done) | omega | (simp; omega))) (hS.pick [0, 1]) ?_
       refine K.m 6 rfl (fun w hS => K.QR.ldN [K.iv ((L.getD ((P.getD i 0).toNat) call0).th), K.iv ((L.getD ((P.getD i 0).toNat) call0).ok), .int .u32 ((L.getD ((P.getD i 0).toNat) call0).key), .int .u32 ((L.getD ((P.getD i 0).toNat) call0).val), K.iv ((L.getD ((P.getD i 0).toNat) call0).rk), .int .u32 ((L.getD ((P.getD i 0).toNat) call0).rv), K.iv ((L.getD ((P.getD i 0).toNat) call0).beg), K.iv ((L.getD ((P.getD i 0).toNat) call0).en), K.iv ((L.getD ((P.getD i 0).toNat) call0).wh), .bool ((L.getD ((P.getD i 0).toNat) call0).cr), .bool ((L.getD ((P.getD i 0).toNat) call0).kp)] rfl rfl (by kernel_rfl) (by kernel_rfl) (K.cells (K.cl ((hx _ (hS.pick [0])).ld ((P.getD i 0).toNat) (by omega) 0 _ rfl) (K.cl ((hx _ (hS.pick [0])).ld ((P.getD i 0).toNat) (by omega) 1 _ rfl) (K.cl ((hx _ (hS.pick [0])).ld ((P.getD i 0).toNat) (by omega) 2 _ rfl) (K.cl ((hx _ (hS.pick [0])).ld ((P.getD i 0).toNat) (by omega) 3 _ rfl) (K.cl ((hx _ (hS.pick [0])).ld ((P.getD i 0).toNat) (by omega) 4 _ rfl) (K.cl ((hx _ (hS.pick [0])).ld ((P.getD i 0).toNat) (by omega) 5 _ rfl) (K.cl ((hx _ (hS.pick [0])).ld ((P.getD i 0).toNat) (by omega) 6 _ rfl) (K.cl ((hx _ (hS.pick [0])).ld ((P.getD i 0).toNat) (by omega) 7 _ rfl) (K.cl ((hx _ (hS.pick [0])).ld ((P.getD i 0).toNat) (by omega) 8 _ rfl) (K.cl ((hx _ (hS.pick [0])).ld ((P.getD i 0).toNat) (by omega) 9 _ rfl) (K.cl ((hx _ (hS.pick [0])).ld ((P.getD i 0).toNat) (by omega) 10 _ rfl) K.cl0))))))))))))) (hS.pick [0, 1]) ?_
       refine K.p 7 rfl (.slice (some ⟨b_15, of_16, none⟩) L.length ca) (hS.pick [0, 1]) ?_
       refine K.p 8 rfl (.slice (some ⟨b_6, of_7, none⟩) P.length cb) (hS.pick [0, 1]) ?_
       refine K.b 9 rfl (K.iv ((k : Nat) : Int)) (hS.pick [0, 1]) ?_
       refine K.c 10 rfl (K.QR.ix (of_7 + k * 1) 1 rfl rfl rfl Try.underlying23 (by kernel_rfl) (by omega) (by first | (simp; done) | omega | (simp; omega))) (hS.pick [0, 1]) ?_
       refine K.c 11 rfl (K.QR.ld1 (v := K.iv (P.getD k 0)) rfl rfl (by kernel_rfl) ((hpx _ (hS.pick [1])).ld k (by omega) 0 _ rfl)) (hS.pick [0, 1]) ?_
       refine K.c 12 rfl (K.QR.ix (of_16 + ((P.getD k 0).toNat) * 11) 11 rfl rfl rfl Try.underlying22 (by kernel_rfl) (by omega) (by first | (simp; done) | omega | (simp; omega))) (hS.pick [0, 1]) ?_
       refine K.c 13 rfl (K.QR.ldN [K.iv ((L.getD ((P.getD k 0).toNat) call0).th), K.iv ((L.getD ((P.getD k 0).toNat) call0).ok), .int .u32 ((L.getD ((P.getD k 0).toNat) call0).key), .int .u32 ((L.getD ((P.getD k 0).toNat) call0).val), K.iv ((L.getD ((P.getD k 0).toNat) call0).rk), .int .u32 ((L.getD ((P.getD k 0).toNat) call0).rv), K.iv ((L.getD ((P.getD k 0).toNat) call0).beg), K.iv ((L.getD ((P.getD k 0).toNat) call0).en), K.iv ((L.getD ((P.getD k 0).toNat) call0).wh), .bool ((L.getD ((P.getD k 0).toNat) call0).cr), .bool ((L.getD ((P.getD k 0).toNat) call0).kp)] rfl rfl (by kernel_rfl) (by kernel_rfl) (K.cells (K.cl ((hx _ (hS.pick [0])).ld ((P.getD k 0).toNat) (by omega) 0 _ rfl) (K.cl ((hx _ (hS.pick [0])).ld ((P.getD k 0).toNat) (by omega) 1 _ rfl) (K.cl ((hx _ (hS.pick [0])).ld ((P.getD k 0).toNat) (by omega) 2 _ rfl) (K.cl ((hx _ (hS.pick [0])).ld ((P.getD k 0).toNat) (by omega) 3 _ rfl) (K.cl ((hx _ (hS.pick [0])).ld ((P.getD k 0).toNat) (by omega) 4 _ rfl) (K.cl ((hx _ (hS.pick [0])).ld ((P.getD k 0).toNat) (by omega) 5 _ rfl) (K.cl ((hx _ (hS.pick [0])).ld ((P.getD k 0).toNat) (by omega) 6 _ rfl) (K.cl ((hx _ (hS.pick [0])).ld ((P.getD k 0).toNat) (by omega) 7 _ rfl) (K.cl ((hx _ (hS.pick [0])).ld ((P.getD k 0).toNat) (by omega) 8 _ rfl) (K.cl ((hx _ (hS.pick [0])).ld ((P.getD k 0).toNat) (by omega) 9 _ rfl) (K.cl ((hx _ (hS.pick [0])).ld ((P.getD k 0).toNat) (by omega) 10 _ rfl) K.cl0))))))))))))) (hS.pick [0, 1]) ?_
       refine K.DW.l 14 rfl (by kernel_rfl) rfl (K.OW.gcall hS [] [0, 1, 2] [.agg #[K.iv ((L.getD ((P.getD i 0).toNat) call0).th), K.iv ((L.getD ((P.getD i 0).toNat) call0).ok), .int .u32 ((L.getD ((P.getD i 0).toNat) call0).key), .int .u32 ((L.getD ((P.getD i 0).toNat) call0).val), K.iv ((L.getD ((P.getD i 0).toNat) call0).rk), .int .u32 ((L.getD ((P.getD i 0).toNat) call0).rv), K.iv ((L.getD ((P.getD i 0).toNat) call0).beg), K.iv ((L.getD ((P.getD i 0).toNat) call0).en), K.iv ((L.getD ((P.getD i 0).toNat) call0).wh), .bool ((L.getD ((P.getD i 0).toNat) call0).cr), .bool ((L.getD ((P.getD i 0).toNat) call0).kp)], .agg #[K.iv ((L.getD ((P.getD k 0).toNat) call0).th), K.iv ((L.getD ((P.getD k 0).toNat) call0).ok), .int .u32 ((L.getD ((P.getD k 0).toNat) call0).key), .int .u32 ((L.getD ((P.getD k 0).toNat) call0).val), K.iv ((L.getD ((P.getD k 0).toNat) call0).rk), .int .u32 ((L.getD ((P.getD k 0).toNat) call0).rv), K.iv ((L.getD ((P.getD k 0).toNat) call0).beg), K.iv ((L.getD ((P.getD k 0).toNat) call0).en), K.iv ((L.getD ((P.getD k 0).toNat) call0).wh), .bool ((L.getD ((P.getD k 0).toNat) call0).cr), .bool ((L.getD ((P.getD k 0).toNat) call0).kp)]] (dahead_ok _ (L.getD ((P.getD i 0).toNat) call0) (L.getD ((P.getD k 0).toNat) call0)) ?_)
       clear hS; rintro _ _ w ⟨rfl, (⟨h_17, rfl⟩ | ⟨h_18, rfl⟩)⟩ hS
       ·
        replace hS : K.Sat w0 [gx, gp, fr] w := hS
        refine ⟨.inl (hS.pick [0, 1]), ?_⟩
        refine K.DW.done (by kernel_rfl) ?_
        refine K.t (K.h (K.s (K.g (K.q [.bool false] (K.z (K.t (K.r ?_)))))))
        refine K.blk_ret ?_
        refine K.u (K.u ?_)
        refine K.blk_ret ?_
        refine K.blk_ret ?_
        refine K.u (K.u ?_)
        refine K.blk_ret ?_
        refine K.u ?_
        refine ⟨.inr rfl, rfl, (.bool false), K.res1 rfl rfl, [gx, gp], ?_, hS.pick [0, 1, 2]⟩
        exact ⟨rfl, .inr ⟨fun hh => (hh i (by omega)).2 k (by omega) h_17, rfl⟩⟩
       ·
        replace hS : K.Sat w0 [gx, gp, fr] w := hS
        refine ⟨.inl (hS.pick [0, 1]), ?_⟩
        refine K.DW.done (by kernel_rfl) ?_
        refine K.t (K.f (K.k ?_))
        refine K.blk_normal ?_
        refine K.t (K.g (K.q [K.iv ((k : Nat) : Int)] ?_))
        refine K.a (K.QR.n64 ((((k : Nat) : Int) : Int) + (1 : Int)) ((k + 1 : Nat) : Int) (by kernel_rfl) (by omega)) ?_
        refine K.q [K.iv ((k + 1 : Nat) : Int)] (K.z (K.t ?_))
        refine ⟨_, ?_, k + 1, rfl, ⟨by rfl, by rfl, by rfl, by rfl, by rfl, trivial⟩, (by omega), (K.all_snoc hnk h_18), hS.pick [0, 1, 2]⟩
        omega
      ·
       refine K.x ((((k : Nat) : Int) : Int) < (((i : Nat) : Int) : Int)) h_14 ?_
       refine K.z (K.t (K.f ?_))
       refine K.KW.exit ?_
       refine K.thn_exit ?_
       refine K.thn_exit ?_
       refine K.blk_hit ?_
       refine K.blk_normal ?_
       refine K.t (K.g (K.q [K.iv ((i : Nat) : Int)] ?_))
       refine K.a (K.QR.n64 ((((i : Nat) : Int) : Int) + (1 : Int)) ((i + 1 : Nat) : Int) (by kernel_rfl) (by omega)) ?_
       refine K.q [K.iv ((i + 1 : Nat) : Int)] (K.z (K.t ?_))
       refine ⟨_, ?_, i + 1, rfl, ⟨by rfl, by rfl, by rfl, by rfl, trivial⟩, (by omega), (K.all_snoc hrs ⟨by omega, fun q hq => hnk q (by omega)⟩), hS.pick [0, 1, 2]⟩
       omega
  ·
   refine K.x ((((i : Nat) : Int) : Int) < (((P.length : Nat) : Int) : Int)) h_5 ?_
   refine K.z (K.t (K.f ?_))
   refine K.KW.exit ?_
   refine K.thn_exit ?_
   refine K.thn_exit ?_
   refine K.blk_hit ?_
   refine K.t (K.s (K.g (K.q [.bool true] (K.z (K.t (K.r ?_))))))
   refine ⟨.inr rfl, rfl, (.bool true), K.res1 rfl rfl, [gx, gp], ?_, hS.pick [0, 1, 2]⟩
   exact ⟨rfl, .inl ⟨fun q hq => hrs q (by omega), rfl⟩⟩
end Go.Proofs.Ytnehocjmgnhhhaa
