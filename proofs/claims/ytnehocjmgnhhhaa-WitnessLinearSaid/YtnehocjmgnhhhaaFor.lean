import Derived.Test.YtnehocjmgnhhhaaFas
import Derived.Test.YtnehocjmgnhhhaaKn
/- Witness: the search laid out. -/
namespace Go.Proofs.Ytnehocjmgnhhhaa
open Go.RowKit
set_option linter.unusedVariables false
attribute [local irreducible] K.KW K.RW K.DW K.OW K.QR K.KC
set_option maxHeartbeats 4000000 in
set_option maxRecDepth 100000 in
theorem orders_ok (w0 : World) (a : Option Addr) (cap : Nat) (L : List CallM) (hm : L.length ≤ 1000000) (gx : K.Cs) (hx : ∀ w, K.Sat w0 [gx] w → K.RowE w a L.length 11 (fun i => cCall (L.getD i call0))) (q s mm : Option Addr) (cq cs cm : Nat) (S : StM) (hl2 : S.s.length ≤ 1000) (hl3 : S.m.length ≤ 1000) (g : K.Cs) (x : RdSt w0 g q s mm cq S) :
  K.GC Try.prog w0 34 #[.agg #[.slice q S.q.length cq, .slice s S.s.length cs, .slice mm S.m.length cm], .slice a L.length cap] [g, gx] (fun v post => (¬ okS S ∧ post = [g, gx] ∧ v = .tuple #[.nilFunc, .int .i64 1]) ∨ (okS S ∧ ¬ rightH L ∧ post = [g, gx] ∧ v = .tuple #[.nilFunc, .int .i64 3]) ∨ (okS S ∧ rightH L ∧ 8 < L.length ∧ post = [g, gx] ∧ v = .tuple #[.nilFunc, .int .i64 2]) ∨ (okS S ∧ rightH L ∧ L.length ≤ 8 ∧ ∃ b1 b2 bx bu g1 g2 gb gu cu, post = [g, gx, g1, g2, gb, gu] ∧ v = .tuple #[.func (.func 64) [].toArray [.pointer (some ⟨b1, 0, none⟩), .pointer (some ⟨b2, 0, none⟩)].toArray, .int .i64 0] ∧ g1 = [K.pt b1 83 [.pointer (some ⟨bx, 0, none⟩)]] ∧ g2 = [K.pt b2 30 [.slice q S.q.length cq, .slice s S.s.length cs, .slice mm S.m.length cm]] ∧ gb = [K.pt bx 85 [.slice a L.length cap, .slice bu L.length cu]] ∧ K.OwnG gu 4 1 bu L.length cu ((List.replicate L.length false).flatMap cBool))) := by
 refine K.GC.mk (n := 30) Try.func34 rfl rfl [.agg #[.slice q S.q.length cq, .slice s S.s.length cs, .slice mm S.m.length cm], .slice a L.length cap] rfl rfl ?_
 intro fr w hS
 replace hS : K.Sat w0 [g, gx, fr] w := hS
 refine K.s (K.g ?_)
 refine K.l (K.OW.gnew 30 [.slice q S.q.length cq, .slice s S.s.length cs, .slice mm S.m.length cm] hS ?_)
 clear hS; intro w r_1 g_2 hg_3 hS
 refine K.q [.nilFunc, .int .i64 0] (K.z (K.t (K.s (K.g ?_))))
 refine K.a (K.QR.ldN [.slice q S.q.length cq, .slice s S.s.length cs, .slice mm S.m.length cm] rfl rfl (by kernel_rfl) (by kernel_rfl) (K.cells (K.cl ((hS.blk 0 rfl hg_3).cell rfl) (K.cl ((hS.blk 0 rfl hg_3).cell rfl) (K.cl ((hS.blk 0 rfl hg_3).cell rfl) K.cl0))))) ?_
 refine K.q [.slice a L.length cap] ?_
 refine K.l (K.OW.gcall hS [1, 2] [0, 3] [.agg #[.slice q S.q.length cq, .slice s S.s.length cs, .slice mm S.m.length cm], .slice a L.length cap] (asked_ok _ _ _ L (by omega) _ hx q s mm cq cs cm S (by omega) (by omega) _ x) ?_)
 clear hS; rintro _ _ w ⟨rfl, (⟨h_4, rfl⟩ | ⟨h_5, h2_6, rfl⟩ | ⟨h_7, h2_8, rfl⟩)⟩ hS
 ·
  replace hS : K.Sat w0 [g, gx, g_2, fr] w := hS
  refine K.q [.int .i64 1] (K.z (K.t (K.s (K.s (K.g (K.q [.int .i64 1, .bool false, .bool false] (K.n_ (K.n_ (K.n_ (K.q [.bool false] (K.z (K.t (K.f (K.k ?_))))))))))))))
  refine K.t (K.s (K.s (K.g (K.q [.int .i64 1, .bool true] (K.z (K.t (K.h (K.s (K.g (K.q [.int .i64 1, .nilFunc, .int .i64 1] (K.z (K.t (K.r (K.u ?_))))))))))))))
  refine ⟨.inr rfl, rfl, (.tuple #[.nilFunc, .int .i64 1]), K.res2 rfl rfl rfl, [g, gx], ?_, hS.pick [0, 1, 3]⟩
  exact .inl ⟨h_4, rfl, rfl⟩
 ·
  replace hS : K.Sat w0 [g, gx, g_2, fr] w := hS
  refine K.q [.int .i64 3] (K.z (K.t (K.s (K.s (K.g (K.q [.int .i64 3, .bool false, .bool false] (K.n_ (K.n_ (K.n_ (K.q [.bool false] (K.z (K.t (K.f (K.k ?_))))))))))))))
  refine K.t (K.s (K.s (K.g (K.q [.int .i64 3, .bool true] (K.z (K.t (K.h (K.s (K.g (K.q [.int .i64 3, .nilFunc, .int .i64 3] (K.z (K.t (K.r (K.u ?_))))))))))))))
  refine ⟨.inr rfl, rfl, (.tuple #[.nilFunc, .int .i64 3]), K.res2 rfl rfl rfl, [g, gx], ?_, hS.pick [0, 1, 3]⟩
  exact .inr (.inl ⟨h_5, h2_6, rfl, rfl⟩)
 ·
  replace hS : K.Sat w0 [g, gx, g_2, fr] w := hS
  refine K.q [.int .i64 0] (K.z (K.t (K.s (K.s (K.g (K.q [.int .i64 0, .bool true, .bool true, .slice a L.length cap] ?_))))))
  refine K.a (K.QR.len (P := Try.prog) rfl rfl Try.underlying22) ?_
  by_cases h_9 : (((L.length : Nat) : Int) : Int) > (8 : Int)
  ·
   refine K.y ((((L.length : Nat) : Int) : Int) > (8 : Int)) h_9 ?_
   refine K.q [.bool true] (K.z (K.t (K.h (K.g (K.q [.int .i64 2] (K.z (K.t (K.s (K.s (K.g (K.q [.int .i64 2, .bool true] (K.z (K.t (K.h ?_))))))))))))))
   refine K.s (K.g (K.q [.int .i64 2, .nilFunc, .int .i64 2] (K.z (K.t (K.r (K.u ?_))))))
   refine ⟨.inr rfl, rfl, (.tuple #[.nilFunc, .int .i64 2]), K.res2 rfl rfl rfl, [g, gx], ?_, hS.pick [0, 1, 3]⟩
   exact .inr (.inr (.inl ⟨h_7, h2_8, by omega, rfl, rfl⟩))
  ·
   refine K.x ((((L.length : Nat) : Int) : Int) > (8 : Int)) h_9 ?_
   refine K.q [.bool false] (K.z (K.t (K.f (K.k (K.t (K.s (K.s (K.g (K.q [.int .i64 0, .bool false] (K.z (K.t (K.f (K.k (K.t ?_))))))))))))))
   refine K.s (K.g (K.q [.slice a L.length cap, .slice a L.length cap] ?_))
   refine K.a (K.QR.len (P := Try.prog) rfl rfl Try.underlying22) ?_
   refine K.l (K.OW.gmk (P := Try.prog) (m := L.length) (cc := cBool) (z := .bool false) (size := 1) (bytes := 1) (false : Bool) hS ?_ Try.underlying54 (by kernel_rfl) rfl rfl (by unfold maxLen; omega) (by omega))
   clear hS; intro w r_10 l_11 o_12 hS
   refine K.a (K.QR.bd [(0, .slice a L.length cap), (1, .slice (some ⟨r_10, 0, none⟩) L.length L.length)] [.slice a L.length cap, .slice (some ⟨r_10, 0, none⟩) L.length L.length] rfl rfl (by kernel_rfl)) ?_
   refine K.l (K.OW.gnew 85 [.slice a L.length cap, .slice (some ⟨r_10, 0, none⟩) L.length L.length] hS ?_)
   clear hS; intro w r_13 g_14 hg_15 hS
   refine K.q [.pointer (some ⟨r_13, 0, none⟩)] (K.z (K.t (K.s (K.g (K.q [.pointer (some ⟨r_13, 0, none⟩)] ?_)))))
   refine K.a (K.QR.ldN [.slice q S.q.length cq, .slice s S.s.length cs, .slice mm S.m.length cm] rfl rfl (by kernel_rfl) (by kernel_rfl) (K.cells (K.cl ((hS.blk 4 rfl hg_3).cell rfl) (K.cl ((hS.blk 4 rfl hg_3).cell rfl) (K.cl ((hS.blk 4 rfl hg_3).cell rfl) K.cl0))))) ?_
   refine K.l (K.OW.gcall hS [] [0, 1, 2, 3, 4, 5] [.pointer (some ⟨r_13, 0, none⟩), .agg #[.slice q S.q.length cq, .slice s S.s.length cs, .slice mm S.m.length cm]] (ends0_ok _ r_13 q s mm cq cs cm S) ?_)
   clear hS; rintro _ _ w ⟨b1_16, b2_17, g1_18, g2_19, rfl, rfl, x1_20, x2_21⟩ hS
   replace hS : K.Sat w0 [g1_18, g2_19, g_14, l_11, g, gx, g_2, fr] w := hS
   refine K.q [.func (.func 64) [].toArray [.pointer (some ⟨b1_16, 0, none⟩), .pointer (some ⟨b2_17, 0, none⟩)].toArray, .int .i64 0] (K.z (K.t (K.r ?_)))
   refine ⟨.inr rfl, rfl, (.tuple #[.func (.func 64) [].toArray [.pointer (some ⟨b1_16, 0, none⟩), .pointer (some ⟨b2_17, 0, none⟩)].toArray, .int .i64 0]), K.res2 rfl rfl rfl, [g, gx, g1_18, g2_19, g_14, l_11], ?_, hS.pick [4, 5, 0, 1, 2, 3, 7]⟩
   exact .inr (.inr (.inr ⟨h_7, h2_8, by omega, _, _, _, _, _, _, _, _, _, rfl, rfl, x1_20, x2_21, hg_15, o_12⟩))
end Go.Proofs.Ytnehocjmgnhhhaa
