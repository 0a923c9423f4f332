import Derived.Test.YtnehocjmgnhhhaaFst
import Derived.Test.YtnehocjmgnhhhaaKn
/- Witness: Ends: what is asked of a row of states. -/
namespace Go.Proofs.Ytnehocjmgnhhhaa
open Go.RowKit
set_option linter.unusedVariables false
attribute [local irreducible] K.KW K.RW K.DW K.OW K.QR K.KC
set_option maxHeartbeats 1000000 in
set_option maxRecDepth 100000 in
theorem ends1f_ok (w0 : World) (bt : Nat) (gt g : K.Cs) (q s mm q' s' m' : Option Addr) (cq cs cm cq' cs' cm' : Nat) (S T : StM) (hgt : gt = [K.pt bt 30 [.slice q' T.q.length cq', .slice s' T.s.length cs', .slice m' T.m.length cm']]) (x : RdSt w0 g q s mm cq S) (y : RdSt w0 g q' s' m' cq' T) (h1 : S.q.length ≤ 1000000) (h2 : S.s.length ≤ 1000000) (h3 : S.m.length ≤ 1000000) :
  K.GC Try.prog w0 36 #[.agg #[.slice q S.q.length cq, .slice s S.s.length cs, .slice mm S.m.length cm], .pointer (some ⟨bt, 0, none⟩)] [gt, g] (fun v post => post = [gt, g] ∧ ((S = T ∧ v = .bool true) ∨ (¬ (S = T) ∧ v = .bool false))) := by
 refine K.GC.mk (n := 7) Try.func36 rfl rfl [.agg #[.slice q S.q.length cq, .slice s S.s.length cs, .slice mm S.m.length cm], .pointer (some ⟨bt, 0, none⟩)] rfl rfl ?_
 intro fr w hS
 replace hS : K.Sat w0 [gt, g, fr] w := hS
 refine K.s (K.g ?_)
 refine K.l (K.OW.gnew 30 [.slice q S.q.length cq, .slice s S.s.length cs, .slice mm S.m.length cm] hS ?_)
 clear hS; intro w r_1 g_2 hg_3 hS
 refine K.q [.bool false] (K.z (K.t (K.s (K.g ?_))))
 refine K.a (K.QR.ldN [.slice q S.q.length cq, .slice s S.s.length cs, .slice mm S.m.length cm] rfl rfl (by kernel_rfl) (by kernel_rfl) (K.cells (K.cl ((hS.blk 0 rfl hg_3).cell rfl) (K.cl ((hS.blk 0 rfl hg_3).cell rfl) (K.cl ((hS.blk 0 rfl hg_3).cell rfl) K.cl0))))) ?_
 refine K.a (K.QR.ldN [.slice q' T.q.length cq', .slice s' T.s.length cs', .slice m' T.m.length cm'] rfl rfl (by kernel_rfl) (by kernel_rfl) (K.cells (K.cl ((hS.blk 1 rfl hgt).cell rfl) (K.cl ((hS.blk 1 rfl hgt).cell rfl) (K.cl ((hS.blk 1 rfl hgt).cell rfl) K.cl0))))) ?_
 refine K.l (K.OW.gcall hS [2] [0, 1, 3] [.agg #[.slice q S.q.length cq, .slice s S.s.length cs, .slice mm S.m.length cm], .agg #[.slice q' T.q.length cq', .slice s' T.s.length cs', .slice m' T.m.length cm']] (sameS_ok _ q s mm q' s' m' cq cs cm cq' cs' cm' S T _ x y h1 h2 h3) ?_)
 clear hS; rintro _ _ w ⟨rfl, (⟨h_4, rfl⟩ | ⟨h_5, rfl⟩)⟩ hS
 ·
  replace hS : K.Sat w0 [g, g_2, gt, fr] w := hS
  refine K.q [.bool true] (K.z (K.t (K.r ?_)))
  refine ⟨.inr rfl, rfl, (.bool true), K.res1 rfl rfl, [gt, g], ?_, hS.pick [2, 0, 3]⟩
  exact ⟨rfl, .inl ⟨h_4, rfl⟩⟩
 ·
  replace hS : K.Sat w0 [g, g_2, gt, fr] w := hS
  refine K.q [.bool false] (K.z (K.t (K.r ?_)))
  refine ⟨.inr rfl, rfl, (.bool false), K.res1 rfl rfl, [gt, g], ?_, hS.pick [2, 0, 3]⟩
  exact ⟨rfl, .inr ⟨h_5, rfl⟩⟩
set_option maxHeartbeats 1000000 in
set_option maxRecDepth 100000 in
theorem ixst_ok (w0 : World) (aa : Option Addr) (ca : Nat) (A : List StE) (hmA : A.length ≤ 100000000) (ga : K.Cs) (ha : ∀ w, K.Sat w0 [ga] w → K.RowE w aa A.length 3 (fun i => cStE (A.getD i dStE))) (bt : Nat) (gt g : K.Cs) (q' s' m' : Option Addr) (cq' cs' cm' : Nat) (T : StM) (hgt : gt = [K.pt bt 30 [.slice q' T.q.length cq', .slice s' T.s.length cs', .slice m' T.m.length cm']]) (hal : AllRd w0 g A) (y : RdSt w0 g q' s' m' cq' T) (hsz : ∀ i, i < A.length → goodS 1000000 (A.getD i dStE).S) :
  K.GC Try.prog w0 51 #[.slice aa A.length ca, .func (.func 36) [].toArray [.pointer (some ⟨bt, 0, none⟩)].toArray] [ga, gt, g] (fun v post => post = [ga, gt, g] ∧ ((inE A T ∧ ∃ k : Int, 0 ≤ k ∧ v = .int .i64 k) ∨ (¬ inE A T ∧ v = .int .i64 (-1)))) := by
 refine K.GC.mk (n := 19) Try.func51 rfl rfl [.slice aa A.length ca, .func (.func 36) [].toArray [.pointer (some ⟨bt, 0, none⟩)].toArray] rfl rfl ?_
 intro fr w hS
 replace hS : K.Sat w0 [ga, gt, g, fr] w := hS
 refine K.s (K.g (K.q [.int .i64 0] (K.z (K.t (K.s (K.s (K.g (K.q [.slice aa A.length ca] ?_))))))))
 refine K.a (K.QR.len (P := Try.prog) rfl rfl Try.underlying42) ?_
 refine K.q [.int .i64 0] (K.z (K.t ?_))
 refine K.KW.block ?_
 refine K.KW.loop (fun m_ F_ w_ => ∃ (i : Nat), m_ = A.length - i ∧ K.Sl F_ [(0, .slice aa A.length ca), (1, .func (.func 36) [].toArray [.pointer (some ⟨bt, 0, none⟩)].toArray), (7, .int .i64 ((A.length : Nat) : Int)), (8, .int .i64 ((i : Nat) : Int)), (19, undef)] ∧ i ≤ A.length ∧ (∀ k, k < i → ¬ (A.getD k dStE).S = T) ∧ K.Sat w0 [ga, gt, g, fr] w_) ((fun (i : Nat) => A.length - i) 0) ?_ ?_
 ·
  exact ⟨0, rfl, ⟨by rfl, by rfl, by rfl, by rfl, by rfl, trivial⟩, (by omega), (fun k h => by omega), hS.pick [0, 1, 2, 3]⟩
 ·
  clear hS
  intro m_1 F_2 w hI
  obtain ⟨i, rfl, sl_3, p_4, hno, hS⟩ := hI
  rw [← K.Sl.puts sl_3]; clear sl_3
  refine K.s (K.g ?_)
  by_cases h_5 : (((i : Nat) : Int) : Int) < (((A.length : Nat) : Int) : Int)
  ·
   refine K.y ((((i : Nat) : Int) : Int) < (((A.length : Nat) : Int) : Int)) h_5 ?_
   refine K.z (K.t (K.s (K.h (K.k (K.t (K.s ?_))))))
   refine K.KW.block ?_
   refine K.s (K.g (K.q [.int .i64 ((i : Nat) : Int), .int .i64 ((i : Nat) : Int)] (K.z (K.t (K.s ?_)))))
   have hz := hsz i (by omega)
   obtain ⟨b_6, of_7, rfl, _⟩ := (ha _ (hS.pick [0])).at_ (by omega)
   refine K.g (K.q [.func (.func 36) [].toArray [.pointer (some ⟨bt, 0, none⟩)].toArray, .slice (some ⟨b_6, of_7, none⟩) A.length ca, .int .i64 ((i : Nat) : Int)] ?_)
   refine K.a (K.QR.ix (of_7 + i * 3) 3 rfl rfl rfl Try.underlying42 (by kernel_rfl) (by omega) (by first | (simp; done) | omega | (simp; omega))) ?_
   refine K.a (K.QR.ldN [.slice ((A.getD i dStE).q) ((A.getD i dStE).S.q.length) ((A.getD i dStE).cq), .slice ((A.getD i dStE).s) ((A.getD i dStE).S.s.length) ((A.getD i dStE).cs), .slice ((A.getD i dStE).m) ((A.getD i dStE).S.m.length) ((A.getD i dStE).cm)] rfl rfl (by kernel_rfl) (by kernel_rfl) (K.cells (K.cl ((ha _ (hS.pick [0])).ld i (by omega) 0 _ rfl) (K.cl ((ha _ (hS.pick [0])).ld i (by omega) 1 _ rfl) (K.cl ((ha _ (hS.pick [0])).ld i (by omega) 2 _ rfl) K.cl0))))) ?_
   refine K.l (K.OW.gcallw hS [1, 2] [0, 3] [.agg #[.slice ((A.getD i dStE).q) ((A.getD i dStE).S.q.length) ((A.getD i dStE).cq), .slice ((A.getD i dStE).s) ((A.getD i dStE).S.s.length) ((A.getD i dStE).cs), .slice ((A.getD i dStE).m) ((A.getD i dStE).S.m.length) ((A.getD i dStE).cm)], .pointer (some ⟨bt, 0, none⟩)] (ends1f_ok _ bt _ _ (A.getD i dStE).q (A.getD i dStE).s (A.getD i dStE).m q' s' m' ((A.getD i dStE).cq) ((A.getD i dStE).cs) ((A.getD i dStE).cm) cq' cs' cm' ((A.getD i dStE).S) T hgt (hal i (by omega)) y hz.1 hz.2.1 hz.2.2.1) ?_)
   clear hS; rintro _ _ w ⟨rfl, (⟨h_8, rfl⟩ | ⟨h_9, rfl⟩)⟩ hS
   ·
    replace hS : K.Sat w0 [gt, g, ga, fr] w := hS
    refine K.z (K.t (K.h (K.s (K.g (K.q [.int .i64 ((i : Nat) : Int), .int .i64 ((i : Nat) : Int)] (K.z (K.t (K.r ?_))))))))
    refine K.blk_ret ?_
    refine K.u (K.u ?_)
    refine K.blk_ret ?_
    refine K.u ?_
    refine ⟨.inr rfl, rfl, (.int .i64 ((i : Nat) : Int)), K.res1 rfl rfl, [ga, gt, g], ?_, hS.pick [2, 0, 1, 3]⟩
    exact ⟨rfl, .inl ⟨⟨i, by omega, h_8⟩, _, by omega, rfl⟩⟩
   ·
    replace hS : K.Sat w0 [gt, g, ga, fr] w := hS
    refine K.z (K.t (K.f (K.k ?_)))
    refine K.blk_normal ?_
    refine K.t (K.g ?_)
    refine K.a (K.QR.n64 ((((i : Nat) : Int) : Int) + (1 : Int)) ((i + 1 : Nat) : Int) (by kernel_rfl) (by omega)) ?_
    refine K.q [.int .i64 ((i + 1 : Nat) : Int)] (K.z (K.t ?_))
    refine ⟨_, ?_, i + 1, rfl, ⟨by rfl, by rfl, by rfl, by rfl, by rfl, trivial⟩, (by omega), (K.all_snoc hno h_9), hS.pick [2, 0, 1, 3]⟩
    omega
  ·
   refine K.x ((((i : Nat) : Int) : Int) < (((A.length : Nat) : Int) : Int)) h_5 ?_
   refine K.z (K.t (K.s (K.f ?_)))
   refine K.KW.exit ?_
   refine K.thn_exit ?_
   refine K.thn_exit ?_
   refine K.blk_hit ?_
   refine K.t (K.s (K.g (K.q [.int .i64 (-1)] (K.z (K.t (K.r ?_))))))
   refine ⟨.inr rfl, rfl, (.int .i64 (-1)), K.res1 rfl rfl, [ga, gt, g], ?_, hS.pick [0, 1, 2, 3]⟩
   exact ⟨rfl, .inr ⟨by rintro ⟨k, hk, he⟩; exact hno k (by omega) he, rfl⟩⟩
set_option maxHeartbeats 1000000 in
set_option maxRecDepth 100000 in
theorem hasst_ok (w0 : World) (aa : Option Addr) (ca : Nat) (A : List StE) (hmA : A.length ≤ 100000000) (ga : K.Cs) (ha : ∀ w, K.Sat w0 [ga] w → K.RowE w aa A.length 3 (fun i => cStE (A.getD i dStE))) (bt : Nat) (gt g : K.Cs) (q' s' m' : Option Addr) (cq' cs' cm' : Nat) (T : StM) (hgt : gt = [K.pt bt 30 [.slice q' T.q.length cq', .slice s' T.s.length cs', .slice m' T.m.length cm']]) (hal : AllRd w0 g A) (y : RdSt w0 g q' s' m' cq' T) (hsz : ∀ i, i < A.length → goodS 1000000 (A.getD i dStE).S) :
  K.GC Try.prog w0 35 #[.slice aa A.length ca, .func (.func 36) [].toArray [.pointer (some ⟨bt, 0, none⟩)].toArray] [ga, gt, g] (fun v post => post = [ga, gt, g] ∧ ((inE A T ∧ v = .bool true) ∨ (¬ (inE A T) ∧ v = .bool false))) := by
 refine K.GC.mk (n := 9) Try.func35 rfl rfl [.slice aa A.length ca, .func (.func 36) [].toArray [.pointer (some ⟨bt, 0, none⟩)].toArray] rfl rfl ?_
 intro fr w hS
 replace hS : K.Sat w0 [ga, gt, g, fr] w := hS
 refine K.s (K.g (K.q [.bool false] (K.z (K.t (K.s (K.g (K.q [.slice aa A.length ca, .func (.func 36) [].toArray [.pointer (some ⟨bt, 0, none⟩)].toArray] ?_)))))))
 refine K.l (K.OW.gcall hS [0, 1, 2] [3] [.slice aa A.length ca, .func (.func 36) [].toArray [.pointer (some ⟨bt, 0, none⟩)].toArray] (ixst_ok _ aa ca A (by omega) _ ha bt _ _ q' s' m' cq' cs' cm' T hgt hal y hsz) ?_)
 clear hS; rintro _ _ w ⟨rfl, (⟨h_1, k_2, hk_3, rfl⟩ | ⟨h_4, rfl⟩)⟩ hS
 ·
  replace hS : K.Sat w0 [ga, gt, g, fr] w := hS
  refine K.y ((k_2 : Int) ≥ (0 : Int)) (by omega) ?_
  refine K.q [.bool true] (K.z (K.t (K.r ?_)))
  refine ⟨.inr rfl, rfl, (.bool true), K.res1 rfl rfl, [ga, gt, g], ?_, hS.pick [0, 1, 2, 3]⟩
  exact ⟨rfl, .inl ⟨h_1, rfl⟩⟩
 ·
  replace hS : K.Sat w0 [ga, gt, g, fr] w := hS
  refine K.q [.bool false, .bool false] (K.z (K.t (K.r ?_)))
  refine ⟨.inr rfl, rfl, (.bool false), K.res1 rfl rfl, [ga, gt, g], ?_, hS.pick [0, 1, 2, 3]⟩
  exact ⟨rfl, .inr ⟨h_4, rfl⟩⟩
end Go.Proofs.Ytnehocjmgnhhhaa
