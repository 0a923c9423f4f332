import Derived.Test.YtnehocjmgnhhhaaFhi5
import Derived.Test.YtnehocjmgnhhhaaKn
/- Histories: the document's Right. -/
namespace Go.Proofs.Ytnehocjmgnhhhaa
open Go.RowKit
set_option linter.unusedVariables false
attribute [local irreducible] K.KW K.RW K.DW K.OW K.QR K.KC
set_option maxHeartbeats 8000000 in
set_option maxRecDepth 100000 in
theorem dhright_ok (w0 : World) (a : Option Addr) (cap : Nat) (L : List CallM) (hm : L.length ≤ 1000000) (gx : K.Cs) (hx : ∀ w, K.Sat w0 [gx] w → K.RowE w a L.length 11 (fun i => cCall (L.getD i call0))) :
  K.GC Try.prog w0 15 #[.slice a L.length cap] [gx] (fun v post => post = [gx] ∧ ((rightH L ∧ v = .bool true) ∨ (¬ (rightH L) ∧ v = .bool false))) := by
 refine K.GC.mk (n := 71) Try.func15 rfl rfl [.slice a L.length cap] rfl rfl ?_
 intro fr w hS
 replace hS : K.Sat w0 [gx, fr] w := hS
 refine K.s (K.g (K.q [.bool false] (K.z (K.t (K.s (K.s (K.g (K.q [K.iv 0] (K.z (K.t ?_))))))))))
 refine K.KW.block ?_
 refine K.KW.loop (fun m_ F_ w_ => ∃ (i : Nat), m_ = L.length - i ∧ K.Sl F_ [(0, .slice a L.length cap), (3, K.iv ((i : Nat) : Int)), (71, undef)] ∧ i ≤ L.length ∧ (∀ q, q < i → rtA L q) ∧ K.Sat w0 [gx, fr] w_) ((fun (i : Nat) => L.length - i) 0) ?_ ?_
 ·
  exact ⟨0, rfl, ⟨by rfl, by rfl, by rfl, trivial⟩, (by omega), (fun q hq => by omega), hS.pick [0, 1]⟩
 ·
  clear hS
  intro m_1 F_2 w hI
  obtain ⟨i, rfl, sl_3, p_4, hrt, hS⟩ := hI
  rw [← K.Sl.puts sl_3]; clear sl_3
  refine K.s (K.s (K.g (K.q [K.iv ((i : Nat) : Int), .slice a L.length cap] ?_)))
  refine K.a (K.QR.len (P := Try.prog) rfl rfl Try.underlying22) ?_
  by_cases h_5 : (((i : Nat) : Int) : Int) < (((L.length : Nat) : Int) : Int)
  ·
   refine K.y ((((i : Nat) : Int) : Int) < (((L.length : Nat) : Int) : Int)) h_5 ?_
   refine K.z (K.t (K.h (K.k (K.t (K.s ?_)))))
   refine K.KW.block ?_
   refine K.s (K.s ?_)
   obtain ⟨b_6, of_7, rfl, _⟩ := (hx _ (hS.pick [0])).at_ (by omega)
   refine K.KW.gdrawn [0] hS (by kernel_rfl) ?_
   clear hS; intro w hS
   refine K.p 0 rfl (.slice (some ⟨b_6, of_7, none⟩) L.length cap) (hS.pick [0]) ?_
   refine K.b 1 rfl (K.iv ((i : Nat) : Int)) (hS.pick [0]) ?_
   refine K.c 2 rfl (K.QR.ix (of_7 + i * 11) 11 rfl rfl rfl Try.underlying22 (by kernel_rfl) (by omega) (by first | (simp; done) | omega | (simp; omega))) (hS.pick [0]) ?_
   refine K.c 3 rfl (K.QR.ldN [K.iv ((L.getD i call0).th), K.iv ((L.getD i call0).ok), .int .u32 ((L.getD i call0).key), .int .u32 ((L.getD i call0).val), K.iv ((L.getD i call0).rk), .int .u32 ((L.getD i call0).rv), K.iv ((L.getD i call0).beg), K.iv ((L.getD i call0).en), K.iv ((L.getD i call0).wh), .bool ((L.getD i call0).cr), .bool ((L.getD i call0).kp)] rfl rfl (by kernel_rfl) (by kernel_rfl) (K.cells (K.cl ((hx _ (hS.pick [0])).ld i (by omega) 0 _ rfl) (K.cl ((hx _ (hS.pick [0])).ld i (by omega) 1 _ rfl) (K.cl ((hx _ (hS.pick [0])).ld i (by omega) 2 _ rfl) (K.cl ((hx _ (hS.pick [0])).ld i (by omega) 3 _ rfl) (K.cl ((hx _ (hS.pick [0])).ld i (by omega) 4 _ rfl) (K.cl ((hx _ (hS.pick [0])).ld i (by omega) 5 _ rfl) (K.cl ((hx _ (hS.pick [0])).ld i (by omega) 6 _ rfl) (K.cl ((hx _ (hS.pick [0])).ld i (by omega) 7 _ rfl) (K.cl ((hx _ (hS.pick [0])).ld i (by omega) 8 _ rfl) (K.cl ((hx _ (hS.pick [0])).ld i (by omega) 9 _ rfl) (K.cl ((hx _ (hS.pick [0])).ld i (by omega) 10 _ rfl) K.cl0))))))))))))) (hS.pick [0]) ?_
   refine K.DW.l 4 rfl (by kernel_rfl) rfl (K.OW.gcall hS [] [0, 1] [.agg #[K.iv ((L.getD i call0).th), K.iv ((L.getD i call0).ok), .int .u32 ((L.getD i call0).key), .int .u32 ((L.getD i call0).val), K.iv ((L.getD i call0).rk), .int .u32 ((L.getD i call0).rv), K.iv ((L.getD i call0).beg), K.iv ((L.getD i call0).en), K.iv ((L.getD i call0).wh), .bool ((L.getD i call0).cr), .bool ((L.getD i call0).kp)]] (dmay_ok _ (L.getD i call0)) ?_)
   clear hS; rintro _ _ w ⟨rfl, (⟨h_8, rfl⟩ | ⟨h_9, rfl⟩)⟩ hS
   ·
    replace hS : K.Sat w0 [gx, fr] w := hS
    refine ⟨.inl (hS.pick [0]), ?_⟩
    refine K.b 5 rfl (.bool false) (hS.pick [0]) ?_
    refine K.b 6 rfl (.bool false) (hS.pick [0]) ?_
    refine K.b 7 rfl (K.iv ((i : Nat) : Int)) (hS.pick [0]) ?_
    by_cases h_10 : (((i : Nat) : Int) : Int) > (0 : Int)
    ·
     refine K.c 8 rfl (K.QR.nice (v := .bool (decide ((((i : Nat) : Int) : Int) > (0 : Int)))) (by kernel_rfl) (congrArg Value.bool (decide_eq_true h_10))) (hS.pick [0]) ?_
     refine K.b 9 rfl (.bool true) (hS.pick [0]) ?_
     refine K.p 10 rfl (.slice (some ⟨b_6, of_7, none⟩) L.length cap) (hS.pick [0]) ?_
     refine K.p 11 rfl (K.iv ((i : Nat) : Int)) (hS.pick [0]) ?_
     refine K.m 12 rfl (fun w hS => K.QR.ix (of_7 + i * 11) 11 rfl rfl rfl Try.underlying22 (by kernel_rfl) (by omega) (by first | (simp; done) | omega | (simp; omega))) (hS.pick [0]) ?_
     refine K.p 13 rfl (.pointer (some ⟨b_6, of_7 + i * 11 + 6, none⟩)) (hS.pick [0]) ?_
     refine K.o_ 14 rfl (K.iv ((L.getD i call0).beg)) (fun w hS => ((hx _ (hS.pick [0])).ld i (by omega) 6 _ rfl)) (hS.pick [0]) ?_
     refine K.p 15 rfl (.slice (some ⟨b_6, of_7, none⟩) L.length cap) (hS.pick [0]) ?_
     refine K.b 16 rfl (K.iv ((i : Nat) : Int)) (hS.pick [0]) ?_
     refine K.c 17 rfl (K.QR.turn (v := K.iv ((i - 1 : Nat) : Int)) (K.QR.n64 ((((i : Nat) : Int) : Int) - (1 : Int)) ((i - 1 : Nat) : Int) (by kernel_rfl) (by omega)) (congrArg (Value.int .i64) (show (((i - 1 : Nat) : Int) : Int) = (((i - 1 : Nat) : Int) : Int) from by omega))) (hS.pick [0]) ?_
     refine K.c 18 rfl (K.QR.ix (of_7 + (i - 1) * 11) 11 rfl rfl rfl Try.underlying22 (by kernel_rfl) (by omega) (by first | (simp; done) | omega | (simp; omega))) (hS.pick [0]) ?_
     refine K.b 19 rfl (.pointer (some ⟨b_6, of_7 + (i - 1) * 11 + 6, none⟩)) (hS.pick [0]) ?_
     refine K.c 20 rfl (K.QR.ld1 (v := K.iv ((L.getD (i - 1) call0).beg)) rfl rfl (by kernel_rfl) ((hx _ (hS.pick [0])).ld (i - 1) (by omega) 6 _ rfl)) (hS.pick [0]) ?_
     by_cases h_11 : ((L.getD i call0).beg : Int) < ((L.getD (i - 1) call0).beg : Int)
     ·
      refine K.c 21 rfl (K.QR.nice (v := .bool (decide (((L.getD i call0).beg : Int) < ((L.getD (i - 1) call0).beg : Int)))) (by kernel_rfl) (congrArg Value.bool (decide_eq_true h_11))) (hS.pick [0]) ?_
      refine K.b 22 rfl (.bool true) (hS.pick [0]) ?_
      refine K.b 23 rfl (.bool true) (hS.pick [0]) ?_
      refine K.DW.done (by kernel_rfl) ?_
      refine K.t (K.h (K.s (K.g (K.q [.bool false] (K.z (K.t (K.r (K.u ?_))))))))
      refine K.blk_ret ?_
      refine K.u (K.u ?_)
      refine K.blk_ret ?_
      refine K.u ?_
      refine ⟨.inr rfl, rfl, (.bool false), K.res1 rfl rfl, [gx], ?_, hS.pick [0, 1]⟩
      exact ⟨rfl, .inr ⟨fun hh => by have h9 := (hh i (by omega)).2.1; omega, rfl⟩⟩
     ·
      refine K.c 21 rfl (K.QR.nice (v := .bool (decide (((L.getD i call0).beg : Int) < ((L.getD (i - 1) call0).beg : Int)))) (by kernel_rfl) (congrArg Value.bool (decide_eq_false h_11))) (hS.pick [0]) ?_
      refine K.b 22 rfl (.bool false) (hS.pick [0]) ?_
      refine K.b 23 rfl (.bool false) (hS.pick [0]) ?_
      refine K.DW.done (by kernel_rfl) ?_
      refine K.t (K.f (K.k (K.t (K.s (K.g (K.q [K.iv ((i : Nat) : Int)] ?_))))))
      refine K.a (K.QR.n64 ((((i : Nat) : Int) : Int) - (1 : Int)) (((i : Nat) : Int) - 1) (by kernel_rfl) (by omega)) ?_
      refine K.q [K.iv (((i : Nat) : Int) - 1)] (K.z (K.t ?_))
      refine K.KW.block ?_
      refine K.KW.loop (fun m_ F_ w_ => ∃ (kk : Nat), m_ = 2 * kk ∧ K.Sl F_ [(0, .slice (some ⟨b_6, of_7, none⟩) L.length cap), (3, K.iv ((i : Nat) : Int)), (4, K.iv (((kk : Nat) : Int) - 1)), (71, undef)] ∧ kk ≤ i ∧ (∀ q, kk ≤ q → q < i → ¬ (L.getD q call0).th = (L.getD i call0).th) ∧ K.Sat w0 [gx, fr] w_) ((fun (kk : Nat) => 2 * kk) i) ?_ ?_
      ·
       exact ⟨i, rfl, ⟨by rfl, by rfl, by rfl, by rfl, trivial⟩, (by omega), (fun q h1 h2 => by omega), hS.pick [0, 1]⟩
      ·
       clear hS
       intro m_12 F_13 w hI
       obtain ⟨kk, rfl, sl_14, p_15, hnk, hS⟩ := hI
       rw [← K.Sl.puts sl_14]; clear sl_14
       refine K.s (K.s (K.g (K.q [K.iv (((kk : Nat) : Int) - 1)] ?_)))
       by_cases h_16 : (((kk : Nat) : Int) - 1 : Int) ≥ (0 : Int)
       ·
        refine K.y ((((kk : Nat) : Int) - 1 : Int) ≥ (0 : Int)) h_16 ?_
        refine K.z (K.t (K.h (K.k (K.t (K.s ?_)))))
        refine K.KW.block ?_
        refine K.s ?_
        have ekk : (((kk : Nat) : Int) - 1).toNat = kk - 1 := by omega
        refine K.KW.gdrawn [0] hS (by kernel_rfl) ?_
        clear hS; intro w hS
        refine K.p 0 rfl (.slice (some ⟨b_6, of_7, none⟩) L.length cap) (hS.pick [0]) ?_
        refine K.p 1 rfl (K.iv (((kk : Nat) : Int) - 1)) (hS.pick [0]) ?_
        refine K.m 2 rfl (fun w hS => K.QR.ix (of_7 + ((((kk : Nat) : Int) - 1).toNat) * 11) 11 rfl rfl rfl Try.underlying22 (by kernel_rfl) (by omega) (by first | (simp; done) | omega | (simp; omega))) (hS.pick [0]) ?_
        refine K.p 3 rfl (.pointer (some ⟨b_6, of_7 + ((((kk : Nat) : Int) - 1).toNat) * 11, none⟩)) (hS.pick [0]) ?_
        refine K.o_ 4 rfl (K.iv ((L.getD ((((kk : Nat) : Int) - 1).toNat) call0).th)) (fun w hS => ((hx _ (hS.pick [0])).ld ((((kk : Nat) : Int) - 1).toNat) (by omega) 0 _ rfl)) (hS.pick [0]) ?_
        refine K.p 5 rfl (.slice (some ⟨b_6, of_7, none⟩) L.length cap) (hS.pick [0]) ?_
        refine K.b 6 rfl (K.iv ((i : Nat) : Int)) (hS.pick [0]) ?_
        refine K.c 7 rfl (K.QR.ix (of_7 + i * 11) 11 rfl rfl rfl Try.underlying22 (by kernel_rfl) (by omega) (by first | (simp; done) | omega | (simp; omega))) (hS.pick [0]) ?_
        refine K.b 8 rfl (.pointer (some ⟨b_6, of_7 + i * 11, none⟩)) (hS.pick [0]) ?_
        refine K.c 9 rfl (K.QR.ld1 (v := K.iv ((L.getD i call0).th)) rfl rfl (by kernel_rfl) ((hx _ (hS.pick [0])).ld i (by omega) 0 _ rfl)) (hS.pick [0]) ?_
        by_cases h_17 : ((L.getD ((((kk : Nat) : Int) - 1).toNat) call0).th : Int) = ((L.getD i call0).th : Int)
        ·
         refine K.c 10 rfl (K.QR.nice (v := .bool (((L.getD ((((kk : Nat) : Int) - 1).toNat) call0).th : Int) == ((L.getD i call0).th : Int))) (by kernel_rfl) (congrArg Value.bool (beq_iff_eq.2 h_17))) (hS.pick [0]) ?_
         refine K.DW.done (by kernel_rfl) ?_
         refine K.t (K.h (K.s (K.s ?_)))
         have hla : lastH L i (L.getD i call0).th = some (L.getD (((kk : Nat) : Int) - 1).toNat call0) := lastH_at (by omega) h_17 (fun q q1 q2 => hnk q (by omega) q2)
         refine K.KW.gdrawn [0] hS (by kernel_rfl) ?_
         clear hS; intro w hS
         refine K.p 0 rfl (.slice (some ⟨b_6, of_7, none⟩) L.length cap) (hS.pick [0]) ?_
         refine K.b 1 rfl (K.iv (((kk : Nat) : Int) - 1)) (hS.pick [0]) ?_
         refine K.c 2 rfl (K.QR.ix (of_7 + ((((kk : Nat) : Int) - 1).toNat) * 11) 11 rfl rfl rfl Try.underlying22 (by kernel_rfl) (by omega) (by first | (simp; done) | omega | (simp; omega))) (hS.pick [0]) ?_
         refine K.b 3 rfl (.pointer (some ⟨b_6, of_7 + ((((kk : Nat) : Int) - 1).toNat) * 11 + 9, none⟩)) (hS.pick [0]) ?_
         refine K.c 4 rfl (K.QR.ld1 (v := .bool ((L.getD ((((kk : Nat) : Int) - 1).toNat) call0).cr)) rfl rfl (by kernel_rfl) ((hx _ (hS.pick [0])).ld ((((kk : Nat) : Int) - 1).toNat) (by omega) 9 _ rfl)) (hS.pick [0]) ?_
         cases hb_18 : (L.getD ((((kk : Nat) : Int) - 1).toNat) call0).cr
         ·
          refine K.b 5 rfl (.bool true) (hS.pick [0]) ?_
          refine K.b 6 rfl (.bool true) (hS.pick [0]) ?_
          refine K.p 7 rfl (.slice (some ⟨b_6, of_7, none⟩) L.length cap) (hS.pick [0]) ?_
          refine K.p 8 rfl (K.iv ((i : Nat) : Int)) (hS.pick [0]) ?_
          refine K.m 9 rfl (fun w hS => K.QR.ix (of_7 + i * 11) 11 rfl rfl rfl Try.underlying22 (by kernel_rfl) (by omega) (by first | (simp; done) | omega | (simp; omega))) (hS.pick [0]) ?_
          refine K.p 10 rfl (.pointer (some ⟨b_6, of_7 + i * 11 + 6, none⟩)) (hS.pick [0]) ?_
          refine K.o_ 11 rfl (K.iv ((L.getD i call0).beg)) (fun w hS => ((hx _ (hS.pick [0])).ld i (by omega) 6 _ rfl)) (hS.pick [0]) ?_
          refine K.p 12 rfl (.slice (some ⟨b_6, of_7, none⟩) L.length cap) (hS.pick [0]) ?_
          refine K.b 13 rfl (K.iv (((kk : Nat) : Int) - 1)) (hS.pick [0]) ?_
          refine K.c 14 rfl (K.QR.ix (of_7 + ((((kk : Nat) : Int) - 1).toNat) * 11) 11 rfl rfl rfl Try.underlying22 (by kernel_rfl) (by omega) (by first | (simp; done) | omega | (simp; omega))) (hS.pick [0]) ?_
          refine K.b 15 rfl (.pointer (some ⟨b_6, of_7 + ((((kk : Nat) : Int) - 1).toNat) * 11 + 7, none⟩)) (hS.pick [0]) ?_
          refine K.c 16 rfl (K.QR.ld1 (v := K.iv ((L.getD ((((kk : Nat) : Int) - 1).toNat) call0).en)) rfl rfl (by kernel_rfl) ((hx _ (hS.pick [0])).ld ((((kk : Nat) : Int) - 1).toNat) (by omega) 7 _ rfl)) (hS.pick [0]) ?_
          by_cases h_19 : ((L.getD i call0).beg : Int) < ((L.getD ((((kk : Nat) : Int) - 1).toNat) call0).en : Int)
          ·
           refine K.c 17 rfl (K.QR.nice (v := .bool (decide (((L.getD i call0).beg : Int) < ((L.getD ((((kk : Nat) : Int) - 1).toNat) call0).en : Int)))) (by kernel_rfl) (congrArg Value.bool (decide_eq_true h_19))) (hS.pick [0]) ?_
           refine K.b 18 rfl (.bool true) (hS.pick [0]) ?_
           refine K.DW.done (by kernel_rfl) ?_
           refine K.t (K.h (K.s (K.g (K.q [.bool false] (K.z (K.t (K.r (K.u ?_))))))))
           refine K.blk_ret ?_
           refine K.u (K.u ?_)
           refine K.blk_ret ?_
           refine K.blk_ret ?_
           refine K.u (K.u ?_)
           refine K.blk_ret ?_
           refine K.u ?_
           refine ⟨.inr rfl, rfl, (.bool false), K.res1 rfl rfl, [gx], ?_, hS.pick [0, 1]⟩
           exact ⟨rfl, .inr ⟨fun hh => (hh i (by omega)).2.2 _ hla ⟨by assumption, by omega⟩, rfl⟩⟩
          ·
           refine K.c 17 rfl (K.QR.nice (v := .bool (decide (((L.getD i call0).beg : Int) < ((L.getD ((((kk : Nat) : Int) - 1).toNat) call0).en : Int)))) (by kernel_rfl) (congrArg Value.bool (decide_eq_false h_19))) (hS.pick [0]) ?_
           refine K.b 18 rfl (.bool false) (hS.pick [0]) ?_
           refine K.DW.done (by kernel_rfl) ?_
           refine K.t (K.f (K.k (K.t ?_)))
           refine K.KW.exit ?_
           refine K.blk_miss rfl ?_
           refine K.thn_exit ?_
           refine K.thn_exit ?_
           refine K.blk_hit ?_
           refine K.blk_normal ?_
           refine K.t (K.g (K.q [K.iv ((i : Nat) : Int)] ?_))
           refine K.a (K.QR.n64 ((((i : Nat) : Int) : Int) + (1 : Int)) ((i + 1 : Nat) : Int) (by kernel_rfl) (by omega)) ?_
           refine K.q [K.iv ((i + 1 : Nat) : Int)] (K.z (K.t ?_))
           refine ⟨_, ?_, i + 1, rfl, ⟨by rfl, by rfl, by rfl, trivial⟩, (by omega), (K.all_snoc hrt ⟨h_8, by omega, fun c9 h9 => by rw [hla] at h9; cases h9; rintro ⟨h1, h2⟩; first | omega | simp_all⟩), hS.pick [0, 1]⟩
           omega
         ·
          refine K.b 5 rfl (.bool false) (hS.pick [0]) ?_
          refine K.b 6 rfl (.bool false) (hS.pick [0]) ?_
          refine K.w_ 7 rfl (hS.pick [0]) ?_
          refine K.w_ 8 rfl (hS.pick [0]) ?_
          refine K.w_ 9 rfl (hS.pick [0]) ?_
          refine K.w_ 10 rfl (hS.pick [0]) ?_
          refine K.w_ 11 rfl (hS.pick [0]) ?_
          refine K.w_ 12 rfl (hS.pick [0]) ?_
          refine K.w_ 13 rfl (hS.pick [0]) ?_
          refine K.w_ 14 rfl (hS.pick [0]) ?_
          refine K.w_ 15 rfl (hS.pick [0]) ?_
          refine K.w_ 16 rfl (hS.pick [0]) ?_
          refine K.w_ 17 rfl (hS.pick [0]) ?_
          refine K.b 18 rfl (.bool false) (hS.pick [0]) ?_
          refine K.DW.done (by kernel_rfl) ?_
          refine K.t (K.f (K.k (K.t ?_)))
          refine K.KW.exit ?_
          refine K.blk_miss rfl ?_
          refine K.thn_exit ?_
          refine K.thn_exit ?_
          refine K.blk_hit ?_
          refine K.blk_normal ?_
          refine K.t (K.g (K.q [K.iv ((i : Nat) : Int)] ?_))
          refine K.a (K.QR.n64 ((((i : Nat) : Int) : Int) + (1 : Int)) ((i + 1 : Nat) : Int) (by kernel_rfl) (by omega)) ?_
          refine K.q [K.iv ((i + 1 : Nat) : Int)] (K.z (K.t ?_))
          refine ⟨_, ?_, i + 1, rfl, ⟨by rfl, by rfl, by rfl, trivial⟩, (by omega), (K.all_snoc hrt ⟨h_8, by omega, fun c9 h9 => by rw [hla] at h9; cases h9; rintro ⟨h1, h2⟩; first | omega | simp_all⟩), hS.pick [0, 1]⟩
          omega
        ·
         refine K.c 10 rfl (K.QR.nice (v := .bool (((L.getD ((((kk : Nat) : Int) - 1).toNat) call0).th : Int) == ((L.getD i call0).th : Int))) (by kernel_rfl) (congrArg Value.bool (beq_eq_false_iff_ne.2 h_17))) (hS.pick [0]) ?_
         refine K.DW.done (by kernel_rfl) ?_
         refine K.t (K.f (K.k ?_))
         refine K.blk_normal ?_
         refine K.t (K.g (K.q [K.iv (((kk : Nat) : Int) - 1)] ?_))
         refine K.a (K.QR.n64 ((((kk : Nat) : Int) - 1 : Int) - (1 : Int)) ((((kk : Nat) : Int) - 1 : Int) - (1 : Int)) (by kernel_rfl) (by omega)) ?_
         refine K.q [K.iv ((((kk : Nat) : Int) - 1 : Int) - (1 : Int))] (K.z (K.t ?_))
         refine ⟨_, ?_, kk - 1, rfl, ⟨by rfl, by rfl, congrArg (Value.int .i64) (by omega), by rfl, trivial⟩, (by omega), (fun q h1 h2 => by
                   by_cases hq9 : q = kk - 1
                   ·rw [hq9, ← ekk]; exact h_17
                   ·exact hnk q (by omega) h2), hS.pick [0, 1]⟩
         omega
       ·
        refine K.x ((((kk : Nat) : Int) - 1 : Int) ≥ (0 : Int)) h_16 ?_
        refine K.z (K.t (K.f ?_))
        refine K.KW.exit ?_
        refine K.thn_exit ?_
        refine K.thn_exit ?_
        refine K.blk_hit ?_
        refine K.blk_normal ?_
        refine K.t (K.g (K.q [K.iv ((i : Nat) : Int)] ?_))
        refine K.a (K.QR.n64 ((((i : Nat) : Int) : Int) + (1 : Int)) ((i + 1 : Nat) : Int) (by kernel_rfl) (by omega)) ?_
        refine K.q [K.iv ((i + 1 : Nat) : Int)] (K.z (K.t ?_))
        refine ⟨_, ?_, i + 1, rfl, ⟨by rfl, by rfl, by rfl, trivial⟩, (by omega), (K.all_snoc hrt ⟨h_8, by omega, fun c9 h9 => by rw [lastH_none (fun q hq => hnk q (by omega) hq)] at h9; cases h9⟩), hS.pick [0, 1]⟩
        omega
    ·
     refine K.c 8 rfl (K.QR.nice (v := .bool (decide ((((i : Nat) : Int) : Int) > (0 : Int)))) (by kernel_rfl) (congrArg Value.bool (decide_eq_false h_10))) (hS.pick [0]) ?_
     refine K.b 9 rfl (.bool false) (hS.pick [0]) ?_
     refine K.w_ 10 rfl (hS.pick [0]) ?_
     refine K.w_ 11 rfl (hS.pick [0]) ?_
     refine K.w_ 12 rfl (hS.pick [0]) ?_
     refine K.w_ 13 rfl (hS.pick [0]) ?_
     refine K.w_ 14 rfl (hS.pick [0]) ?_
     refine K.w_ 15 rfl (hS.pick [0]) ?_
     refine K.w_ 16 rfl (hS.pick [0]) ?_
     refine K.w_ 17 rfl (hS.pick [0]) ?_
     refine K.w_ 18 rfl (hS.pick [0]) ?_
     refine K.w_ 19 rfl (hS.pick [0]) ?_
     refine K.w_ 20 rfl (hS.pick [0]) ?_
     refine K.w_ 21 rfl (hS.pick [0]) ?_
     refine K.b 22 rfl (.bool false) (hS.pick [0]) ?_
     refine K.b 23 rfl (.bool false) (hS.pick [0]) ?_
     refine K.DW.done (by kernel_rfl) ?_
     refine K.t (K.f (K.k (K.t (K.s (K.g (K.q [K.iv ((i : Nat) : Int)] ?_))))))
     refine K.a (K.QR.n64 ((((i : Nat) : Int) : Int) - (1 : Int)) (((i : Nat) : Int) - 1) (by kernel_rfl) (by omega)) ?_
     refine K.q [K.iv (((i : Nat) : Int) - 1)] (K.z (K.t ?_))
     refine K.KW.block ?_
     refine K.KW.loop (fun m_ F_ w_ => ∃ (kk : Nat), m_ = 2 * kk ∧ K.Sl F_ [(0, .slice (some ⟨b_6, of_7, none⟩) L.length cap), (3, K.iv ((i : Nat) : Int)), (4, K.iv (((kk : Nat) : Int) - 1)), (71, undef)] ∧ kk ≤ i ∧ (∀ q, kk ≤ q → q < i → ¬ (L.getD q call0).th = (L.getD i call0).th) ∧ K.Sat w0 [gx, fr] w_) ((fun (kk : Nat) => 2 * kk) i) ?_ ?_
     ·
      exact ⟨i, rfl, ⟨by rfl, by rfl, by rfl, by rfl, trivial⟩, (by omega), (fun q h1 h2 => by omega), hS.pick [0, 1]⟩
     ·
      clear hS
      intro m_20 F_21 w hI
      obtain ⟨kk, rfl, sl_22, p_23, hnk, hS⟩ := hI
      rw [← K.Sl.puts sl_22]; clear sl_22
      refine K.s (K.s (K.g (K.q [K.iv (((kk : Nat) : Int) - 1)] ?_)))
      by_cases h_24 : (((kk : Nat) : Int) - 1 : Int) ≥ (0 : Int)
      ·
       refine K.y ((((kk : Nat) : Int) - 1 : Int) ≥ (0 : Int)) h_24 ?_
       refine K.z (K.t (K.h (K.k (K.t (K.s ?_)))))
       refine K.KW.block ?_
       refine K.s ?_
       have ekk : (((kk : Nat) : Int) - 1).toNat = kk - 1 := by omega
       refine K.KW.gdrawn [0] hS (by kernel_rfl) ?_
       clear hS; intro w hS
       refine K.p 0 rfl (.slice (some ⟨b_6, of_7, none⟩) L.length cap) (hS.pick [0]) ?_
       refine K.p 1 rfl (K.iv (((kk : Nat) : Int) - 1)) (hS.pick [0]) ?_
       refine K.m 2 rfl (fun w hS => K.QR.ix (of_7 + ((((kk : Nat) : Int) - 1).toNat) * 11) 11 rfl rfl rfl Try.underlying22 (by kernel_rfl) (by omega) (by first | (simp; done) | omega | (simp; omega))) (hS.pick [0]) ?_
       refine K.p 3 rfl (.pointer (some ⟨b_6, of_7 + ((((kk : Nat) : Int) - 1).toNat) * 11, none⟩)) (hS.pick [0]) ?_
       refine K.o_ 4 rfl (K.iv ((L.getD ((((kk : Nat) : Int) - 1).toNat) call0).th)) (fun w hS => ((hx _ (hS.pick [0])).ld ((((kk : Nat) : Int) - 1).toNat) (by omega) 0 _ rfl)) (hS.pick [0]) ?_
       refine K.p 5 rfl (.slice (some ⟨b_6, of_7, none⟩) L.length cap) (hS.pick [0]) ?_
       refine K.b 6 rfl (K.iv ((i : Nat) : Int)) (hS.pick [0]) ?_
       refine K.c 7 rfl (K.QR.ix (of_7 + i * 11) 11 rfl rfl rfl Try.underlying22 (by kernel_rfl) (by omega) (by first | (simp; done) | omega | (simp; omega))) (hS.pick [0]) ?_
       refine K.b 8 rfl (.pointer (some ⟨b_6, of_7 + i * 11, none⟩)) (hS.pick [0]) ?_
       refine K.c 9 rfl (K.QR.ld1 (v := K.iv ((L.getD i call0).th)) rfl rfl (by kernel_rfl) ((hx _ (hS.pick [0])).ld i (by omega) 0 _ rfl)) (hS.pick [0]) ?_
       by_cases h_25 : ((L.getD ((((kk : Nat) : Int) - 1).toNat) call0).th : Int) = ((L.getD i call0).th : Int)
       ·
        refine K.c 10 rfl (K.QR.nice (v := .bool (((L.getD ((((kk : Nat) : Int) - 1).toNat) call0).th : Int) == ((L.getD i call0).th : Int))) (by kernel_rfl) (congrArg Value.bool (beq_iff_eq.2 h_25))) (hS.pick [0]) ?_
        refine K.DW.done (by kernel_rfl) ?_
        refine K.t (K.h (K.s (K.s ?_)))
        have hla : lastH L i (L.getD i call0).th = some (L.getD (((kk : Nat) : Int) - 1).toNat call0) := lastH_at (by omega) h_25 (fun q q1 q2 => hnk q (by omega) q2)
        refine K.KW.gdrawn [0] hS (by kernel_rfl) ?_
        clear hS; intro w hS
        refine K.p 0 rfl (.slice (some ⟨b_6, of_7, none⟩) L.length cap) (hS.pick [0]) ?_
        refine K.b 1 rfl (K.iv (((kk : Nat) : Int) - 1)) (hS.pick [0]) ?_
        refine K.c 2 rfl (K.QR.ix (of_7 + ((((kk : Nat) : Int) - 1).toNat) * 11) 11 rfl rfl rfl Try.underlying22 (by kernel_rfl) (by omega) (by first | (simp; done) | omega | (simp; omega))) (hS.pick [0]) ?_
        refine K.b 3 rfl (.pointer (some ⟨b_6, of_7 + ((((kk : Nat) : Int) - 1).toNat) * 11 + 9, none⟩)) (hS.pick [0]) ?_
        refine K.c 4 rfl (K.QR.ld1 (v := .bool ((L.getD ((((kk : Nat) : Int) - 1).toNat) call0).cr)) rfl rfl (by kernel_rfl) ((hx _ (hS.pick [0])).ld ((((kk : Nat) : Int) - 1).toNat) (by omega) 9 _ rfl)) (hS.pick [0]) ?_
        cases hb_26 : (L.getD ((((kk : Nat) : Int) - 1).toNat) call0).cr
        ·
         refine K.b 5 rfl (.bool true) (hS.pick [0]) ?_
         refine K.b 6 rfl (.bool true) (hS.pick [0]) ?_
         refine K.p 7 rfl (.slice (some ⟨b_6, of_7, none⟩) L.length cap) (hS.pick [0]) ?_
         refine K.p 8 rfl (K.iv ((i : Nat) : Int)) (hS.pick [0]) ?_
         refine K.m 9 rfl (fun w hS => K.QR.ix (of_7 + i * 11) 11 rfl rfl rfl Try.underlying22 (by kernel_rfl) (by omega) (by first | (simp; done) | omega | (simp; omega))) (hS.pick [0]) ?_
         refine K.p 10 rfl (.pointer (some ⟨b_6, of_7 + i * 11 + 6, none⟩)) (hS.pick [0]) ?_
         refine K.o_ 11 rfl (K.iv ((L.getD i call0).beg)) (fun w hS => ((hx _ (hS.pick [0])).ld i (by omega) 6 _ rfl)) (hS.pick [0]) ?_
         refine K.p 12 rfl (.slice (some ⟨b_6, of_7, none⟩) L.length cap) (hS.pick [0]) ?_
         refine K.b 13 rfl (K.iv (((kk : Nat) : Int) - 1)) (hS.pick [0]) ?_
         refine K.c 14 rfl (K.QR.ix (of_7 + ((((kk : Nat) : Int) - 1).toNat) * 11) 11 rfl rfl rfl Try.underlying22 (by kernel_rfl) (by omega) (by first | (simp; done) | omega | (simp; omega))) (hS.pick [0]) ?_
         refine K.b 15 rfl (.pointer (some ⟨b_6, of_7 + ((((kk : Nat) : Int) - 1).toNat) * 11 + 7, none⟩)) (hS.pick [0]) ?_
         refine K.c 16 rfl (K.QR.ld1 (v := K.iv ((L.getD ((((kk : Nat) : Int) - 1).toNat) call0).en)) rfl rfl (by kernel_rfl) ((hx _ (hS.pick [0])).ld ((((kk : Nat) : Int) - 1).toNat) (by omega) 7 _ rfl)) (hS.pick [0]) ?_
         by_cases h_27 : ((L.getD i call0).beg : Int) < ((L.getD ((((kk : Nat) : Int) - 1).toNat) call0).en : Int)
         ·
          refine K.c 17 rfl (K.QR.nice (v := .bool (decide (((L.getD i call0).beg : Int) < ((L.getD ((((kk : Nat) : Int) - 1).toNat) call0).en : Int)))) (by kernel_rfl) (congrArg Value.bool (decide_eq_true h_27))) (hS.pick [0]) ?_
          refine K.b 18 rfl (.bool true) (hS.pick [0]) ?_
          refine K.DW.done (by kernel_rfl) ?_
          refine K.t (K.h (K.s (K.g (K.q [.bool false] (K.z (K.t (K.r (K.u ?_))))))))
          refine K.blk_ret ?_
          refine K.u (K.u ?_)
          refine K.blk_ret ?_
          refine K.blk_ret ?_
          refine K.u (K.u ?_)
          refine K.blk_ret ?_
          refine K.u ?_
          refine ⟨.inr rfl, rfl, (.bool false), K.res1 rfl rfl, [gx], ?_, hS.pick [0, 1]⟩
          exact ⟨rfl, .inr ⟨fun hh => (hh i (by omega)).2.2 _ hla ⟨by assumption, by omega⟩, rfl⟩⟩
         ·
          refine K.c 17 rfl (K.QR.nice (v := .bool (decide (((L.getD i call0).beg : Int) < ((L.getD ((((kk : Nat) : Int) - 1).toNat) call0).en : Int)))) (by kernel_rfl) (congrArg Value.bool (decide_eq_false h_27))) (hS.pick [0]) ?_
          refine K.b 18 rfl (.bool false) (hS.pick [0]) ?_
          refine K.DW.done (by kernel_rfl) ?_
          refine K.t (K.f (K.k (K.t ?_)))
          refine K.KW.exit ?_
          refine K.blk_miss rfl ?_
          refine K.thn_exit ?_
          refine K.thn_exit ?_
          refine K.blk_hit ?_
          refine K.blk_normal ?_
          refine K.t (K.g (K.q [K.iv ((i : Nat) : Int)] ?_))
          refine K.a (K.QR.n64 ((((i : Nat) : Int) : Int) + (1 : Int)) ((i + 1 : Nat) : Int) (by kernel_rfl) (by omega)) ?_
          refine K.q [K.iv ((i + 1 : Nat) : Int)] (K.z (K.t ?_))
          refine ⟨_, ?_, i + 1, rfl, ⟨by rfl, by rfl, by rfl, trivial⟩, (by omega), (K.all_snoc hrt ⟨h_8, by omega, fun c9 h9 => by rw [hla] at h9; cases h9; rintro ⟨h1, h2⟩; first | omega | simp_all⟩), hS.pick [0, 1]⟩
          omega
        ·
         refine K.b 5 rfl (.bool false) (hS.pick [0]) ?_
         refine K.b 6 rfl (.bool false) (hS.pick [0]) ?_
         refine K.w_ 7 rfl (hS.pick [0]) ?_
         refine K.w_ 8 rfl (hS.pick [0]) ?_
         refine K.w_ 9 rfl (hS.pick [0]) ?_
         refine K.w_ 10 rfl (hS.pick [0]) ?_
         refine K.w_ 11 rfl (hS.pick [0]) ?_
         refine K.w_ 12 rfl (hS.pick [0]) ?_
         refine K.w_ 13 rfl (hS.pick [0]) ?_
         refine K.w_ 14 rfl (hS.pick [0]) ?_
         refine K.w_ 15 rfl (hS.pick [0]) ?_
         refine K.w_ 16 rfl (hS.pick [0]) ?_
         refine K.w_ 17 rfl (hS.pick [0]) ?_
         refine K.b 18 rfl (.bool false) (hS.pick [0]) ?_
         refine K.DW.done (by kernel_rfl) ?_
         refine K.t (K.f (K.k (K.t ?_)))
         refine K.KW.exit ?_
         refine K.blk_miss rfl ?_
         refine K.thn_exit ?_
         refine K.thn_exit ?_
         refine K.blk_hit ?_
         refine K.blk_normal ?_
         refine K.t (K.g (K.q [K.iv ((i : Nat) : Int)] ?_))
         refine K.a (K.QR.n64 ((((i : Nat) : Int) : Int) + (1 : Int)) ((i + 1 : Nat) : Int) (by kernel_rfl) (by omega)) ?_
         refine K.q [K.iv ((i + 1 : Nat) : Int)] (K.z (K.t ?_))
         refine ⟨_, ?_, i + 1, rfl, ⟨by rfl, by rfl, by rfl, trivial⟩, (by omega), (K.all_snoc hrt ⟨h_8, by omega, fun c9 h9 => by rw [hla] at h9; cases h9; rintro ⟨h1, h2⟩; first | omega | simp_all⟩), hS.pick [0, 1]⟩
         omega
       ·
        refine K.c 10 rfl (K.QR.nice (v := .bool (((L.getD ((((kk : Nat) : Int) - 1).toNat) call0).th : Int) == ((L.getD i call0).th : Int))) (by kernel_rfl) (congrArg Value.bool (beq_eq_false_iff_ne.2 h_25))) (hS.pick [0]) ?_
        refine K.DW.done (by kernel_rfl) ?_
        refine K.t (K.f (K.k ?_))
        refine K.blk_normal ?_
        refine K.t (K.g (K.q [K.iv (((kk : Nat) : Int) - 1)] ?_))
        refine K.a (K.QR.n64 ((((kk : Nat) : Int) - 1 : Int) - (1 : Int)) ((((kk : Nat) : Int) - 1 : Int) - (1 : Int)) (by kernel_rfl) (by omega)) ?_
        refine K.q [K.iv ((((kk : Nat) : Int) - 1 : Int) - (1 : Int))] (K.z (K.t ?_))
        refine ⟨_, ?_, kk - 1, rfl, ⟨by rfl, by rfl, congrArg (Value.int .i64) (by omega), by rfl, trivial⟩, (by omega), (fun q h1 h2 => by
                  by_cases hq9 : q = kk - 1
                  ·rw [hq9, ← ekk]; exact h_25
                  ·exact hnk q (by omega) h2), hS.pick [0, 1]⟩
        omega
      ·
       refine K.x ((((kk : Nat) : Int) - 1 : Int) ≥ (0 : Int)) h_24 ?_
       refine K.z (K.t (K.f ?_))
       refine K.KW.exit ?_
       refine K.thn_exit ?_
       refine K.thn_exit ?_
       refine K.blk_hit ?_
       refine K.blk_normal ?_
       refine K.t (K.g (K.q [K.iv ((i : Nat) : Int)] ?_))
       refine K.a (K.QR.n64 ((((i : Nat) : Int) : Int) + (1 : Int)) ((i + 1 : Nat) : Int) (by kernel_rfl) (by omega)) ?_
       refine K.q [K.iv ((i + 1 : Nat) : Int)] (K.z (K.t ?_))
       refine ⟨_, ?_, i + 1, rfl, ⟨by rfl, by rfl, by rfl, trivial⟩, (by omega), (K.all_snoc hrt ⟨h_8, by omega, fun c9 h9 => by rw [lastH_none (fun q hq => hnk q (by omega) hq)] at h9; cases h9⟩), hS.pick [0, 1]⟩
       omega
   ·
    replace hS : K.Sat w0 [gx, fr] w := hS
    refine ⟨.inl (hS.pick [0]), ?_⟩
    refine K.b 5 rfl (.bool true) (hS.pick [0]) ?_
    refine K.b 6 rfl (.bool true) (hS.pick [0]) ?_
    refine K.w_ 7 rfl (hS.pick [0]) ?_
    refine K.w_ 8 rfl (hS.pick [0]) ?_
    refine K.w_ 9 rfl (hS.pick [0]) ?_
    refine K.w_ 10 rfl (hS.pick [0]) ?_
    refine K.w_ 11 rfl (hS.pick [0]) ?_
    refine K.w_ 12 rfl (hS.pick [0]) ?_
    refine K.w_ 13 rfl (hS.pick [0]) ?_
    refine K.w_ 14 rfl (hS.pick [0]) ?_
    refine K.w_ 15 rfl (hS.pick [0]) ?_
    refine K.w_ 16 rfl (hS.pick [0]) ?_
    refine K.w_ 17 rfl (hS.pick [0]) ?_
    refine K.w_ 18 rfl (hS.pick [0]) ?_
    refine K.w_ 19 rfl (hS.pick [0]) ?_
    refine K.w_ 20 rfl (hS.pick [0]) ?_
    refine K.w_ 21 rfl (hS.pick [0]) ?_
    refine K.w_ 22 rfl (hS.pick [0]) ?_
    refine K.b 23 rfl (.bool true) (hS.pick [0]) ?_
    refine K.DW.done (by kernel_rfl) ?_
    refine K.t (K.h (K.s (K.g (K.q [.bool false] (K.z (K.t (K.r (K.u ?_))))))))
    refine K.blk_ret ?_
    refine K.u (K.u ?_)
    refine K.blk_ret ?_
    refine K.u ?_
    refine ⟨.inr rfl, rfl, (.bool false), K.res1 rfl rfl, [gx], ?_, hS.pick [0, 1]⟩
    exact ⟨rfl, .inr ⟨fun hh => absurd (hh i (by omega)).1 h_9, rfl⟩⟩
  ·
   refine K.x ((((i : Nat) : Int) : Int) < (((L.length : Nat) : Int) : Int)) h_5 ?_
   refine K.z (K.t (K.f ?_))
   refine K.KW.exit ?_
   refine K.thn_exit ?_
   refine K.thn_exit ?_
   refine K.blk_hit ?_
   refine K.t (K.s (K.g (K.q [.bool true] (K.z (K.t (K.r ?_))))))
   refine ⟨.inr rfl, rfl, (.bool true), K.res1 rfl rfl, [gx], ?_, hS.pick [0, 1]⟩
   exact ⟨rfl, .inl ⟨fun q hq => hrt q (by omega), rfl⟩⟩
end Go.Proofs.Ytnehocjmgnhhhaa
