import Derived.Test.YtnehocjmgnhhhaaFse2
import Derived.Test.YtnehocjmgnhhhaaKn
/- Witness: are the states of a row among those of another one. -/
namespace Go.Proofs.Ytnehocjmgnhhhaa
open Go.RowKit
set_option linter.unusedVariables false
attribute [local irreducible] K.KW K.RW K.DW K.OW K.QR K.KC
set_option maxHeartbeats 8000000 in
set_option maxRecDepth 100000 in
theorem in25_ok (w0 : World) (aa : Option Addr) (ca : Nat) (A : List StE) (hmA : A.length ≤ 100000000) (ga : K.Cs) (ha : ∀ w, K.Sat w0 [ga] w → K.RowE w aa A.length 3 (fun i => cStE (A.getD i dStE)))(ab : Option Addr) (cb : Nat) (B : List StE) (hmB : B.length ≤ 100000000) (gb : K.Cs) (hb : ∀ w, K.Sat w0 [gb] w → K.RowE w ab B.length 3 (fun i => cStE (B.getD i dStE)))(g : K.Cs) (hal : AllRd w0 g A) (hbl : AllRd w0 g B) (hsz : ∀ i, i < B.length → goodS 1000000 (B.getD i dStE).S) :
  K.GC Try.prog w0 21 #[.slice aa A.length ca, .slice ab B.length cb] [ga, gb, g] (fun v post => post = [ga, gb, g] ∧ (((∀ i, i < B.length → inE A (B.getD i dStE).S) ∧ v = .bool true) ∨ (¬ ((∀ i, i < B.length → inE A (B.getD i dStE).S)) ∧ v = .bool false))) := by
 refine K.GC.mk (n := 34) Try.func21 rfl rfl [.slice aa A.length ca, .slice ab B.length cb] rfl rfl ?_
 intro fr w hS
 replace hS : K.Sat w0 [ga, gb, g, fr] w := hS
 refine K.s (K.g (K.q [.bool false] (K.z (K.t (K.s (K.s (K.g (K.q [K.iv 0] (K.z (K.t ?_))))))))))
 refine K.KW.block ?_
 refine K.KW.loop (fun m_ F_ w_ => ∃ (i : Nat), m_ = B.length - i ∧ K.Sl F_ [(0, .slice aa A.length ca), (1, .slice ab B.length cb), (5, K.iv ((i : Nat) : Int)), (34, undef)] ∧ i ≤ B.length ∧ (∀ q, q < i → inE A (B.getD q dStE).S) ∧ K.Sat w0 [ga, gb, g, fr] w_) ((fun (i : Nat) => B.length - i) 0) ?_ ?_
 ·
  exact ⟨0, rfl, ⟨by rfl, by rfl, by rfl, by rfl, trivial⟩, (by omega), (fun q h => by omega), hS.pick [0, 1, 2, 3]⟩
 ·
  clear hS
  intro m_1 F_2 w hI
  obtain ⟨i, rfl, sl_3, p_4, hin, hS⟩ := hI
  rw [← K.Sl.puts sl_3]; clear sl_3
  refine K.s (K.s (K.g (K.q [K.iv ((i : Nat) : Int), .slice ab B.length cb] ?_)))
  refine K.a (K.QR.len (P := Try.prog) rfl rfl Try.underlying42) ?_
  by_cases h_5 : (((i : Nat) : Int) : Int) < (((B.length : Nat) : Int) : Int)
  ·
   refine K.y ((((i : Nat) : Int) : Int) < (((B.length : Nat) : Int) : Int)) h_5 ?_
   refine K.z (K.t (K.h (K.k (K.t (K.s ?_)))))
   refine K.KW.block ?_
   refine K.s (K.g (K.q [.bool false] (K.z (K.t (K.s (K.s (K.g (K.q [K.iv 0] (K.z (K.t ?_))))))))))
   refine K.KW.block ?_
   refine K.KW.loop (fun m_ F_ w_ => ∃ (k : Nat) (f : Bool), m_ = A.length - k ∧ K.Sl F_ [(0, .slice aa A.length ca), (1, .slice ab B.length cb), (5, K.iv ((i : Nat) : Int)), (6, .bool f), (7, K.iv ((k : Nat) : Int)), (34, undef)] ∧ k ≤ A.length ∧ ((f = true → inE A (B.getD i dStE).S)) ∧ ((f = false → ∀ q, q < k → ¬ (A.getD q dStE).S = (B.getD i dStE).S)) ∧ K.Sat w0 [ga, gb, g, fr] w_) ((fun (k : Nat) (f : Bool) => A.length - k) 0 false) ?_ ?_
   ·
    exact ⟨0, false, rfl, ⟨by rfl, by rfl, by rfl, by rfl, by rfl, by rfl, trivial⟩, (by omega), (fun h => by cases h), (fun _ q h => by omega), hS.pick [0, 1, 2, 3]⟩
   ·
    clear hS
    intro m_6 F_7 w hI
    obtain ⟨k, f, rfl, sl_8, p_9, hft, hff, hS⟩ := hI
    rw [← K.Sl.puts sl_8]; clear sl_8
    cases f
    ·
     refine K.s (K.s (K.g (K.q [K.iv ((k : Nat) : Int), .slice aa A.length ca] ?_)))
     refine K.a (K.QR.len (P := Try.prog) rfl rfl Try.underlying42) ?_
     by_cases h_10 : (((k : Nat) : Int) : Int) < (((A.length : Nat) : Int) : Int)
     ·
      refine K.y ((((k : Nat) : Int) : Int) < (((A.length : Nat) : Int) : Int)) h_10 ?_
      refine K.z (K.t (K.h (K.k (K.t (K.s ?_)))))
      refine K.KW.block ?_
      have hz := hsz i (by omega)
      obtain ⟨b_11, of_12, rfl, _⟩ := (ha _ (hS.pick [0])).at_ (by omega)
      obtain ⟨b_13, of_14, rfl, _⟩ := (hb _ (hS.pick [1])).at_ (by omega)
      refine K.KW.gdrawn [1] hS (by kernel_rfl) ?_
      clear hS; intro w hS
      refine K.b 0 rfl (.bool false) (hS.pick [1]) ?_
      refine K.b 1 rfl (.bool false) (hS.pick [1]) ?_
      refine K.p 2 rfl (.slice (some ⟨b_13, of_14, none⟩) B.length cb) (hS.pick [1]) ?_
      refine K.p 3 rfl (K.iv ((i : Nat) : Int)) (hS.pick [1]) ?_
      refine K.m 4 rfl (fun w hS => K.QR.ix (of_14 + i * 3) 3 rfl rfl rfl Try.underlying42 (by kernel_rfl) (by omega) (by first | (simp; done) | omega | (simp; omega))) (hS.pick [1]) ?_
      refine K.m 5 rfl (fun w hS => K.QR.ldN [.slice ((B.getD i dStE).q) ((B.getD i dStE).S.q.length) ((B.getD i dStE).cq), .slice ((B.getD i dStE).s) ((B.getD i dStE).S.s.length) ((B.getD i dStE).cs), .slice ((B.getD i dStE).m) ((B.getD i dStE).S.m.length) ((B.getD i dStE).cm)] rfl rfl (by kernel_rfl) (by kernel_rfl) (K.cells (K.cl ((hb _ (hS.pick [0])).ld i (by omega) 0 _ rfl) (K.cl ((hb _ (hS.pick [0])).ld i (by omega) 1 _ rfl) (K.cl ((hb _ (hS.pick [0])).ld i (by omega) 2 _ rfl) K.cl0))))) (hS.pick [1]) ?_
      refine K.p 6 rfl (.slice (some ⟨b_11, of_12, none⟩) A.length ca) (hS.pick [1]) ?_
      refine K.b 7 rfl (K.iv ((k : Nat) : Int)) (hS.pick [1]) ?_
      refine K.c 8 rfl (K.QR.ix (of_12 + k * 3) 3 rfl rfl rfl Try.underlying42 (by kernel_rfl) (by omega) (by first | (simp; done) | omega | (simp; omega))) (hS.pick [1]) ?_
      refine K.c 9 rfl (K.QR.ldN [.slice ((A.getD k dStE).q) ((A.getD k dStE).S.q.length) ((A.getD k dStE).cq), .slice ((A.getD k dStE).s) ((A.getD k dStE).S.s.length) ((A.getD k dStE).cs), .slice ((A.getD k dStE).m) ((A.getD k dStE).S.m.length) ((A.getD k dStE).cm)] rfl rfl (by kernel_rfl) (by kernel_rfl) (K.cells (K.cl ((ha _ (hS.pick [0])).ld k (by omega) 0 _ rfl) (K.cl ((ha _ (hS.pick [0])).ld k (by omega) 1 _ rfl) (K.cl ((ha _ (hS.pick [0])).ld k (by omega) 2 _ rfl) K.cl0))))) (hS.pick [1]) ?_
      refine K.DW.l 10 rfl (by kernel_rfl) (by kernel_rfl) (K.OW.gcall hS [2] [0, 1, 3] [.agg #[.slice ((B.getD i dStE).q) ((B.getD i dStE).S.q.length) ((B.getD i dStE).cq), .slice ((B.getD i dStE).s) ((B.getD i dStE).S.s.length) ((B.getD i dStE).cs), .slice ((B.getD i dStE).m) ((B.getD i dStE).S.m.length) ((B.getD i dStE).cm)], .agg #[.slice ((A.getD k dStE).q) ((A.getD k dStE).S.q.length) ((A.getD k dStE).cq), .slice ((A.getD k dStE).s) ((A.getD k dStE).S.s.length) ((A.getD k dStE).cs), .slice ((A.getD k dStE).m) ((A.getD k dStE).S.m.length) ((A.getD k dStE).cm)]] (sameS_ok _ (B.getD i dStE).q (B.getD i dStE).s (B.getD i dStE).m (A.getD k dStE).q (A.getD k dStE).s (A.getD k dStE).m ((B.getD i dStE).cq) ((B.getD i dStE).cs) ((B.getD i dStE).cm) ((A.getD k dStE).cq) ((A.getD k dStE).cs) ((A.getD k dStE).cm) ((B.getD i dStE).S) ((A.getD k dStE).S) _ (hbl i (by omega)) (hal k (by omega)) hz.1 hz.2.1 hz.2.2.1) ?_)
      clear hS; rintro _ _ w ⟨rfl, (⟨h_15, rfl⟩ | ⟨h_16, rfl⟩)⟩ hS
      ·
       replace hS : K.Sat w0 [g, ga, gb, fr] w := hS
       refine ⟨.inl (hS.pick [2]), ?_⟩
       refine K.b 11 rfl (.bool true) (hS.pick [2]) ?_
       refine K.b 12 rfl (.bool true) (hS.pick [2]) ?_
       refine K.DW.done (by kernel_rfl) ?_
       refine K.blk_normal ?_
       refine K.t (K.g (K.q [K.iv ((k : Nat) : Int)] ?_))
       refine K.a (K.QR.n64 ((((k : Nat) : Int) : Int) + (1 : Int)) ((k + 1 : Nat) : Int) (by kernel_rfl) (by omega)) ?_
       refine K.q [K.iv ((k + 1 : Nat) : Int)] (K.z (K.t ?_))
       refine ⟨_, ?_, k + 1, true, rfl, ⟨by rfl, by rfl, by rfl, by rfl, by rfl, by rfl, trivial⟩, (by omega), (fun _ => ⟨k, by omega, h_15.symm⟩), (fun h => by cases h), hS.pick [1, 2, 0, 3]⟩
       omega
      ·
       replace hS : K.Sat w0 [g, ga, gb, fr] w := hS
       refine ⟨.inl (hS.pick [2]), ?_⟩
       refine K.b 11 rfl (.bool false) (hS.pick [2]) ?_
       refine K.b 12 rfl (.bool false) (hS.pick [2]) ?_
       refine K.DW.done (by kernel_rfl) ?_
       refine K.blk_normal ?_
       refine K.t (K.g (K.q [K.iv ((k : Nat) : Int)] ?_))
       refine K.a (K.QR.n64 ((((k : Nat) : Int) : Int) + (1 : Int)) ((k + 1 : Nat) : Int) (by kernel_rfl) (by omega)) ?_
       refine K.q [K.iv ((k + 1 : Nat) : Int)] (K.z (K.t ?_))
       refine ⟨_, ?_, k + 1, false, rfl, ⟨by rfl, by rfl, by rfl, by rfl, by rfl, by rfl, trivial⟩, (by omega), (fun h => by cases h), (fun _ => K.all_snoc (hff rfl) (fun e => h_16 e.symm)), hS.pick [1, 2, 0, 3]⟩
       omega
     ·
      refine K.x ((((k : Nat) : Int) : Int) < (((A.length : Nat) : Int) : Int)) h_10 ?_
      refine K.z (K.t (K.f ?_))
      refine K.KW.exit ?_
      refine K.thn_exit ?_
      refine K.thn_exit ?_
      refine K.blk_hit ?_
      refine K.t (K.s (K.g (K.q [.bool false, .bool true] (K.z (K.t (K.h (K.s (K.g (K.q [.bool false] (K.z (K.t (K.r ?_))))))))))))
      refine K.blk_ret ?_
      refine K.u (K.u ?_)
      refine K.blk_ret ?_
      refine K.u ?_
      refine ⟨.inr rfl, rfl, (.bool false), K.res1 rfl rfl, [ga, gb, g], ?_, hS.pick [0, 1, 2, 3]⟩
      exact ⟨rfl, .inr ⟨fun hh => (hh i (by omega)).elim fun q hq => hff rfl q (by omega) hq.2, rfl⟩⟩
    ·
     refine K.s (K.s (K.g (K.q [K.iv ((k : Nat) : Int), .slice aa A.length ca] ?_)))
     refine K.a (K.QR.len (P := Try.prog) rfl rfl Try.underlying42) ?_
     by_cases h_17 : (((k : Nat) : Int) : Int) < (((A.length : Nat) : Int) : Int)
     ·
      refine K.y ((((k : Nat) : Int) : Int) < (((A.length : Nat) : Int) : Int)) h_17 ?_
      refine K.z (K.t (K.h (K.k (K.t (K.s ?_)))))
      refine K.KW.block ?_
      have hz := hsz i (by omega)
      obtain ⟨b_18, of_19, rfl, _⟩ := (ha _ (hS.pick [0])).at_ (by omega)
      obtain ⟨b_20, of_21, rfl, _⟩ := (hb _ (hS.pick [1])).at_ (by omega)
      refine K.KW.gdrawn [] hS (by kernel_rfl) ?_
      clear hS; intro w hS
      refine K.b 0 rfl (.bool true) (hS.pick []) ?_
      refine K.b 1 rfl (.bool true) (hS.pick []) ?_
      refine K.w_ 2 rfl (hS.pick []) ?_
      refine K.w_ 3 rfl (hS.pick []) ?_
      refine K.w_ 4 rfl (hS.pick []) ?_
      refine K.w_ 5 rfl (hS.pick []) ?_
      refine K.w_ 6 rfl (hS.pick []) ?_
      refine K.w_ 7 rfl (hS.pick []) ?_
      refine K.w_ 8 rfl (hS.pick []) ?_
      refine K.w_ 9 rfl (hS.pick []) ?_
      refine K.w_ 10 rfl (hS.pick []) ?_
      refine K.b 11 rfl (.bool true) (hS.pick []) ?_
      refine K.b 12 rfl (.bool true) (hS.pick []) ?_
      refine K.DW.done (by kernel_rfl) ?_
      refine K.blk_normal ?_
      refine K.t (K.g (K.q [K.iv ((k : Nat) : Int)] ?_))
      refine K.a (K.QR.n64 ((((k : Nat) : Int) : Int) + (1 : Int)) ((k + 1 : Nat) : Int) (by kernel_rfl) (by omega)) ?_
      refine K.q [K.iv ((k + 1 : Nat) : Int)] (K.z (K.t ?_))
      refine ⟨_, ?_, k + 1, true, rfl, ⟨by rfl, by rfl, by rfl, by rfl, by rfl, by rfl, trivial⟩, (by omega), (fun _ => hft rfl), (fun h => by cases h), hS.pick [0, 1, 2, 3]⟩
      omega
     ·
      refine K.x ((((k : Nat) : Int) : Int) < (((A.length : Nat) : Int) : Int)) h_17 ?_
      refine K.z (K.t (K.f ?_))
      refine K.KW.exit ?_
      refine K.thn_exit ?_
      refine K.thn_exit ?_
      refine K.blk_hit ?_
      refine K.t (K.s (K.g (K.q [.bool true, .bool false] (K.z (K.t (K.f (K.k ?_)))))))
      refine K.blk_normal ?_
      refine K.t (K.g (K.q [K.iv ((i : Nat) : Int)] ?_))
      refine K.a (K.QR.n64 ((((i : Nat) : Int) : Int) + (1 : Int)) ((i + 1 : Nat) : Int) (by kernel_rfl) (by omega)) ?_
      refine K.q [K.iv ((i + 1 : Nat) : Int)] (K.z (K.t ?_))
      refine ⟨_, ?_, i + 1, rfl, ⟨by rfl, by rfl, by rfl, by rfl, trivial⟩, (by omega), (K.all_snoc hin (hft rfl)), hS.pick [0, 1, 2, 3]⟩
      omega
  ·
   refine K.x ((((i : Nat) : Int) : Int) < (((B.length : Nat) : Int) : Int)) h_5 ?_
   refine K.z (K.t (K.f ?_))
   refine K.KW.exit ?_
   refine K.thn_exit ?_
   refine K.thn_exit ?_
   refine K.blk_hit ?_
   refine K.t (K.s (K.g (K.q [.bool true] (K.z (K.t (K.r ?_))))))
   refine ⟨.inr rfl, rfl, (.bool true), K.res1 rfl rfl, [ga, gb, g], ?_, hS.pick [0, 1, 2, 3]⟩
   exact ⟨rfl, .inl ⟨fun q hq => hin q (by omega), rfl⟩⟩
end Go.Proofs.Ytnehocjmgnhhhaa
