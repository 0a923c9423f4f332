import Derived.Test.YtnehocjmgnhhhaaFty
import Derived.Test.YtnehocjmgnhhhaaKn
/- Witness: the search as an iterator. -/
namespace Go.Proofs.Ytnehocjmgnhhhaa
open Go.RowKit
set_option linter.unusedVariables false
attribute [local irreducible] K.KW K.RW K.DW K.OW K.QR K.KC
theorem try_all (w0 : World) (bx : Nat) (gb : K.Cs) (a bu : Option Addr) (cap cu : Nat) (L : List CallM) (hm : L.length ≤ 1000000) (hgb : gb = [K.pt bx 85 [.slice a L.length cap, .slice bu L.length cu]]) (gx : K.Cs) (hx : ∀ w, K.Sat w0 [gx] w → K.RowE w a L.length 11 (fun i => cCall (L.getD i call0)))
  (l : Nat) (J : List StM → K.Cs → K.Cs → Prop) (E : K.Cs → K.Cs → Prop) (hJG : ∀ d, JGrow w0 (J d)) (hEG : JGrow w0 E) (Dt : List StM) (hY : YldS Try.prog w0 l Dt J E) : ∀ f : Nat, ∀ (U : List Bool) (gu g m : K.Cs) (done : List StM) (q s mm : Option Addr) (cq cs cm : Nat) (S : StM) (k : Nat), U.length = L.length → U.count false < f → K.OwnG gu 4 1 bu L.length cu (U.flatMap cBool) → J done g m → RdSt w0 g q s mm cq S → goodS k S → k + U.count false ≤ 1000000 → (done ++ endsN L f S U) <+: Dt → K.GC Try.prog w0 65 #[K.pa bx, stA q cq s cs mm cm S, .func (.yield l) #[] #[]] [gb, gu, gx, g, m] (TryR w0 bu cu U gb gx g J E (done ++ endsN L f S U))
 | 0, _, _, _, _, _, _, _, _, _, _, _, _, _, _, h, _, _, _, _, _, _ => by omega
 | f + 1, U, gu, g, m, done, q, s, mm, cq, cs, cm, S, k, hU, hc, hu, hJ, x, hg, hk, hp =>
  try_step w0 bx gb gu a bu cap cu L U hm hU hgb hu gx hx l J E hJG hEG Dt hY f (try_all w0 bx gb a bu cap cu L hm hgb gx hx l J E hJG hEG Dt hY f) hc g m done hJ q s mm cq cs cm S k x hg hk hp
set_option maxHeartbeats 1000000 in
set_option maxRecDepth 100000 in
theorem ends1_ok (w0 : World) (b1 b2 bx : Nat) (g1 g2 : K.Cs) (hg1 : g1 = [K.pt b1 83 [K.pa bx]]) (gb gu : K.Cs) (a bu : Option Addr) (cap cu : Nat) (L : List CallM) (U : List Bool) (hm : L.length ≤ 1000000) (hU : U.length = L.length) (hgb : gb = [K.pt bx 85 [.slice a L.length cap, .slice bu L.length cu]]) (hu : K.OwnG gu 4 1 bu L.length cu (U.flatMap cBool)) (gx : K.Cs) (hx : ∀ w, K.Sat w0 [gx] w → K.RowE w a L.length 11 (fun i => cCall (L.getD i call0))) (l : Nat) (J : List StM → K.Cs → K.Cs → Prop) (E : K.Cs → K.Cs → Prop) (hJG : ∀ d, JGrow w0 (J d)) (hEG : JGrow w0 E) (Dt : List StM) (hY : YldS Try.prog w0 l Dt J E) (g m : K.Cs) (done : List StM) (hJ0 : J done g m) (q s mm : Option Addr) (cq cs cm : Nat) (S : StM) (k : Nat) (x : RdSt w0 g q s mm cq S) (hgd : goodS k S) (hkc : k + U.count false ≤ 1000000) (hpre : (done ++ endsN L (U.count false + 1) S U) <+: Dt) (hg2 : g2 = [K.pt b2 30 [.slice q S.q.length cq, .slice s S.s.length cs, .slice mm S.m.length cm]]) :
  K.GC Try.prog w0 64 #[.func (.yield l) #[] #[], K.pa b1, K.pa b2] [g1, g2, gb, gu, gx, g, m] (fun v post => ∃ gu' g' m', post = [g1, g2, gb, gu', gx, g', m'] ∧ Grow w0 g g' ∧ (J (done ++ endsN L (U.count false + 1) S U) g' m' ∨ E g' m')) := by
 refine K.GC.mk (n := 8) Try.func64 rfl rfl [.func (.yield l) #[] #[], K.pa b1, K.pa b2] rfl rfl ?_
 intro fr w hS
 replace hS : K.Sat w0 [g1, g2, gb, gu, gx, g, m, fr] w := hS
 refine K.g ?_
 refine K.d (K.pa bx) ((hS.blk 0 rfl hg1).cell rfl) ?_
 refine K.a (K.QR.ldN [.slice q S.q.length cq, .slice s S.s.length cs, .slice mm S.m.length cm] rfl rfl (by kernel_rfl) (by kernel_rfl) (K.cells (K.cl ((hS.blk 1 rfl hg2).cell rfl) (K.cl ((hS.blk 1 rfl hg2).cell rfl) (K.cl ((hS.blk 1 rfl hg2).cell rfl) K.cl0))))) ?_
 refine K.q [.func (.yield l) #[] #[]] ?_
 refine K.l (K.OW.gcall hS [2, 3, 4, 5, 6] [0, 1, 7] [K.pa bx, .agg #[.slice q S.q.length cq, .slice s S.s.length cs, .slice mm S.m.length cm], .func (.yield l) #[] #[]] (try_all _ _ _ _ _ _ _ L hm hgb gx hx l J E hJG hEG Dt hY (U.count false + 1) U _ _ _ done q s mm cq cs cm S k hU (by omega) hu hJ0 x hgd hkc hpre) ?_)
 clear hS; rintro _ _ w ⟨gu_1, g_2, m_3, rfl, hu0_4, hg_5, hv_6⟩ hS
 replace hS : K.Sat w0 [gb, gu_1, gx, g_2, m_3, g1, g2, fr] w := hS
 refine K.z ?_
 refine ⟨.inl rfl, rfl, (.tuple #[]), K.res0 rfl, [g1, g2, gb, gu_1, gx, g_2, m_3], ?_, hS.pick [5, 6, 0, 1, 2, 3, 4, 7]⟩
 exact ⟨_, _, _, rfl, hg_5, hv_6.imp (fun h => h.2) (fun h => h.2)⟩
set_option maxHeartbeats 1000000 in
set_option maxRecDepth 100000 in
theorem ends0_ok (w0 : World) (bx : Nat) (q s mm : Option Addr) (cq cs cm : Nat) (S : StM) :
  K.GC Try.prog w0 50 #[K.pa bx, .agg #[.slice q S.q.length cq, .slice s S.s.length cs, .slice mm S.m.length cm]] [] (fun v post => ∃ b1 b2 g1 g2, v = .func (.func 64) [].toArray [K.pa b1, K.pa b2].toArray ∧ post = [g1, g2] ∧ g1 = [K.pt b1 83 [K.pa bx]] ∧ g2 = [K.pt b2 30 [.slice q S.q.length cq, .slice s S.s.length cs, .slice mm S.m.length cm]]) := by
 refine K.GC.mk (n := 6) Try.func50 rfl rfl [K.pa bx, .agg #[.slice q S.q.length cq, .slice s S.s.length cs, .slice mm S.m.length cm]] rfl rfl ?_
 intro fr w hS
 replace hS : K.Sat w0 [fr] w := hS
 refine K.s (K.g ?_)
 refine K.l (K.OW.gnew 83 [K.pa bx] hS ?_)
 clear hS; intro w r_1 g_2 hg_3 hS
 refine K.l (K.OW.gnew 30 [.slice q S.q.length cq, .slice s S.s.length cs, .slice mm S.m.length cm] hS ?_)
 clear hS; intro w r_4 g_5 hg_6 hS
 refine K.q [.nilFunc] (K.z (K.t (K.s (K.g ?_))))
 refine K.a (K.QR.fn [] [K.pa r_1, K.pa r_4] rfl rfl rfl) ?_
 refine K.q [.func (.func 64) [].toArray [K.pa r_1, K.pa r_4].toArray] (K.z (K.t (K.r ?_)))
 refine ⟨.inr rfl, rfl, (.func (.func 64) [].toArray [K.pa r_1, K.pa r_4].toArray), K.res1 rfl rfl, [g_2, g_5], ?_, hS.pick [1, 0, 2]⟩
 exact ⟨_, _, _, _, rfl, rfl, hg_3, hg_6⟩
end Go.Proofs.Ytnehocjmgnhhhaa

/- Witness: what is asked first. -/
namespace Go.Proofs.Ytnehocjmgnhhhaa
open Go.RowKit
set_option linter.unusedVariables false
attribute [local irreducible] K.KW K.RW K.DW K.OW K.QR K.KC
def okS (S : StM) : Prop := rising S.s ∧ rising (keysP S.m)
theorem okS_iff (S : StM) : (risingB S.s && risingB (keysP S.m)) = true ↔ okS S := by
 unfold okS
 rw [Bool.and_eq_true]
 have key : ∀ ks : List Int, risingB ks = true ↔ rising ks := fun ks => by
  constructor
  ·intro h i hi
   refine Classical.byContradiction fun hn => ?_
   have := risingB_f hi hn
   rw [h] at this; cases this
  ·intro h
   exact (risingB_t h).symm
 rw [key, key]
theorem rightS_ok (w0 : World) (q s m : Option Addr) (cq cs cm : Nat) (S : StM) (g : K.Cs) (x : RdSt w0 g q s m cq S) (h2 : S.s.length ≤ 1000) (h3 : S.m.length ≤ 1000) :
  K.GC Try.prog w0 43 #[stA q cq s cs m cm S] [g] (fun v post => post = [g] ∧ ((okS S ∧ v = .bool true) ∨ (¬ okS S ∧ v = .bool false))) := fun fr w hS => by
 obtain ⟨qa, sa, ma⟩ := S
 obtain ⟨x1, x2, x3, hc⟩ := x
 refine K.KC.mono (right_ok q s m qa.length cq cs cm sa ma w h2 h3 (x2 _ (hS.pick [0])) (x3 _ (hS.pick [0]))) ?_
 rintro v w' ⟨rfl, hch⟩
 refine ⟨[g], ⟨rfl, ?_⟩, hS.no hch⟩
 have hi := okS_iff ⟨qa, sa, ma⟩
 by_cases ho : okS ⟨qa, sa, ma⟩
 ·exact .inl ⟨ho, congrArg Value.bool (hi.2 ho)⟩
 ·refine .inr ⟨ho, congrArg Value.bool ?_⟩
  cases hb : (risingB sa && risingB (keysP ma)) with
  | true => exact absurd (hi.1 hb) ho
  | false => rfl
theorem drightS_ok (w0 : World) (q s m : Option Addr) (cq cs cm : Nat) (S : StM) (g : K.Cs) (x : RdSt w0 g q s m cq S) (h2 : S.s.length ≤ 1000) (h3 : S.m.length ≤ 1000) :
  K.GC Try.prog w0 14 #[stA q cq s cs m cm S] [g] (fun v post => post = [g] ∧ ((okS S ∧ v = .bool true) ∨ (¬ okS S ∧ v = .bool false))) := fun fr w hS => by
 obtain ⟨qa, sa, ma⟩ := S
 obtain ⟨x1, x2, x3, hc⟩ := x
 refine K.KC.mono (rright_ok q s m qa.length cq cs cm sa ma w h2 h3 (x2 _ (hS.pick [0])) (x3 _ (hS.pick [0]))) ?_
 rintro v w' ⟨rfl, hch⟩
 refine ⟨[g], ⟨rfl, ?_⟩, hS.no hch⟩
 have hi := okS_iff ⟨qa, sa, ma⟩
 by_cases ho : okS ⟨qa, sa, ma⟩
 ·exact .inl ⟨ho, congrArg Value.bool (hi.2 ho)⟩
 ·refine .inr ⟨ho, congrArg Value.bool ?_⟩
  cases hb : (risingB sa && risingB (keysP ma)) with
  | true => exact absurd (hi.1 hb) ho
  | false => rfl
set_option maxHeartbeats 1000000 in
set_option maxRecDepth 100000 in
theorem asked_ok (w0 : World) (a : Option Addr) (cap : Nat) (L : List CallM) (hm : L.length ≤ 1000000) (gx : K.Cs) (hx : ∀ w, K.Sat w0 [gx] w → K.RowE w a L.length 11 (fun i => cCall (L.getD i call0))) (q s mm : Option Addr) (cq cs cm : Nat) (S : StM) (hl2 : S.s.length ≤ 1000) (hl3 : S.m.length ≤ 1000) (g : K.Cs) (x : RdSt w0 g q s mm cq S) :
  K.GC Try.prog w0 28 #[.agg #[.slice q S.q.length cq, .slice s S.s.length cs, .slice mm S.m.length cm], .slice a L.length cap] [g, gx] (fun v post => post = [g, gx] ∧ ((¬ okS S ∧ v = K.iv 1) ∨ (okS S ∧ ¬ rightH L ∧ v = K.iv 3) ∨ (okS S ∧ rightH L ∧ v = K.iv 0))) := by
 refine K.GC.mk (n := 13) Try.func28 rfl rfl [.agg #[.slice q S.q.length cq, .slice s S.s.length cs, .slice mm S.m.length cm], .slice a L.length cap] rfl rfl ?_
 intro fr w hS
 replace hS : K.Sat w0 [g, gx, fr] w := hS
 refine K.s (K.g ?_)
 refine K.l (K.OW.gnew 30 [.slice q S.q.length cq, .slice s S.s.length cs, .slice mm S.m.length cm] hS ?_)
 clear hS; intro w r_1 g_2 hg_3 hS
 refine K.q [K.iv 0] (K.z (K.t (K.s ?_)))
 refine K.KW.block ?_
 refine K.s (K.g ?_)
 refine K.a (K.QR.ldN [.slice q S.q.length cq, .slice s S.s.length cs, .slice mm S.m.length cm] rfl rfl (by kernel_rfl) (by kernel_rfl) (K.cells (K.cl ((hS.blk 0 rfl hg_3).cell rfl) (K.cl ((hS.blk 0 rfl hg_3).cell rfl) (K.cl ((hS.blk 0 rfl hg_3).cell rfl) K.cl0))))) ?_
 refine K.l (K.OW.gcall hS [1] [0, 2, 3] [.agg #[.slice q S.q.length cq, .slice s S.s.length cs, .slice mm S.m.length cm]] (rightS_ok _ q s mm cq cs cm S _ x (by omega) (by omega)) ?_)
 clear hS; rintro _ _ w ⟨rfl, (⟨h_4, rfl⟩ | ⟨h_5, rfl⟩)⟩ hS
 ·
  replace hS : K.Sat w0 [g, g_2, gx, fr] w := hS
  refine K.q [.bool false, .bool false] (K.z (K.t (K.f (K.s (K.g (K.q [.slice a L.length cap] ?_))))))
  refine K.l (K.OW.gcall hS [2] [0, 1, 3] [.slice a L.length cap] (hright_ok _ _ _ L (by omega) _ hx) ?_)
  clear hS; rintro _ _ w ⟨rfl, (⟨h_6, rfl⟩ | ⟨h_7, rfl⟩)⟩ hS
  ·
   replace hS : K.Sat w0 [gx, g, g_2, fr] w := hS
   refine K.q [.bool false, .bool false] (K.z (K.t (K.f (K.k ?_))))
   refine K.blk_normal ?_
   refine K.t (K.s (K.g (K.q [K.iv 0] (K.z (K.t (K.r ?_))))))
   refine ⟨.inr rfl, rfl, (K.iv 0), K.res1 rfl rfl, [g, gx], ?_, hS.pick [1, 0, 3]⟩
   exact ⟨rfl, .inr (.inr ⟨h_4, h_6, rfl⟩)⟩
  ·
   replace hS : K.Sat w0 [gx, g, g_2, fr] w := hS
   refine K.q [.bool true, .bool true] (K.z (K.t (K.h (K.s (K.g (K.q [K.iv 3] (K.z (K.t (K.r ?_)))))))))
   refine K.blk_ret ?_
   refine K.u ?_
   refine ⟨.inr rfl, rfl, (K.iv 3), K.res1 rfl rfl, [g, gx], ?_, hS.pick [1, 0, 3]⟩
   exact ⟨rfl, .inr (.inl ⟨h_4, h_7, rfl⟩)⟩
 ·
  replace hS : K.Sat w0 [g, g_2, gx, fr] w := hS
  refine K.q [.bool true, .bool true] (K.z (K.t (K.h (K.s (K.g (K.q [K.iv 1] (K.z (K.t (K.r ?_)))))))))
  refine K.blk_ret ?_
  refine K.u ?_
  refine ⟨.inr rfl, rfl, (K.iv 1), K.res1 rfl rfl, [g, gx], ?_, hS.pick [0, 2, 3]⟩
  exact ⟨rfl, .inl ⟨h_5, rfl⟩⟩
set_option maxHeartbeats 1000000 in
set_option maxRecDepth 100000 in
theorem few25_ok (w0 : World) (q s mm a : Option Addr) (cq cs cm cap : Nat) (S : StM) (L : List CallM) :
  K.GC Try.prog w0 12 #[.agg #[.slice q S.q.length cq, .slice s S.s.length cs, .slice mm S.m.length cm], .slice a L.length cap] [] (fun v post => post = [] ∧ (((S.q.length ≤ 100 ∧ S.s.length ≤ 100 ∧ S.m.length ≤ 100 ∧ L.length ≤ 100) ∧ v = .bool true) ∨ (¬ ((S.q.length ≤ 100 ∧ S.s.length ≤ 100 ∧ S.m.length ≤ 100 ∧ L.length ≤ 100)) ∧ v = .bool false))) := by
 refine K.GC.mk (n := 26) Try.func12 rfl rfl [.agg #[.slice q S.q.length cq, .slice s S.s.length cs, .slice mm S.m.length cm], .slice a L.length cap] rfl rfl ?_
 intro fr w hS
 replace hS : K.Sat w0 [fr] w := hS
 refine K.s (K.g ?_)
 refine K.l (K.OW.gnew 30 [.slice q S.q.length cq, .slice s S.s.length cs, .slice mm S.m.length cm] hS ?_)
 clear hS; intro w r_1 g_2 hg_3 hS
 refine K.q [.bool false] (K.z (K.t (K.s (K.g (K.q [K.pa r_1] ?_)))))
 refine K.d (.slice q S.q.length cq) ((hS.blk 0 rfl hg_3).cell rfl) ?_
 refine K.a (K.QR.len (P := Try.prog) rfl rfl Try.underlying27) ?_
 by_cases h_4 : (((S.q.length : Nat) : Int) : Int) ≤ (100 : Int)
 ·
  refine K.y ((((S.q.length : Nat) : Int) : Int) ≤ (100 : Int)) h_4 ?_
  refine K.q [.bool true, .pointer (some ⟨r_1, 1, none⟩)] ?_
  refine K.d (.slice s S.s.length cs) ((hS.blk 0 rfl hg_3).cell rfl) ?_
  refine K.a (K.QR.len (P := Try.prog) rfl rfl Try.underlying27) ?_
  by_cases h_5 : (((S.s.length : Nat) : Int) : Int) ≤ (100 : Int)
  ·
   refine K.y ((((S.s.length : Nat) : Int) : Int) ≤ (100 : Int)) h_5 ?_
   refine K.q [.bool true, .bool true, .pointer (some ⟨r_1, 2, none⟩)] ?_
   refine K.d (.slice mm S.m.length cm) ((hS.blk 0 rfl hg_3).cell rfl) ?_
   refine K.a (K.QR.len (P := Try.prog) rfl rfl Try.underlying28) ?_
   by_cases h_6 : (((S.m.length : Nat) : Int) : Int) ≤ (100 : Int)
   ·
    refine K.y ((((S.m.length : Nat) : Int) : Int) ≤ (100 : Int)) h_6 ?_
    refine K.q [.bool true, .bool true, .slice a L.length cap] ?_
    refine K.a (K.QR.len (P := Try.prog) rfl rfl Try.underlying22) ?_
    by_cases h_7 : (((L.length : Nat) : Int) : Int) ≤ (100 : Int)
    ·
     refine K.y ((((L.length : Nat) : Int) : Int) ≤ (100 : Int)) h_7 ?_
     refine K.q [.bool true, .bool true] (K.z (K.t (K.r ?_)))
     refine ⟨.inr rfl, rfl, (.bool true), K.res1 rfl rfl, [], ?_, hS.pick [1]⟩
     exact ⟨rfl, .inl ⟨by omega, rfl⟩⟩
    ·
     refine K.x ((((L.length : Nat) : Int) : Int) ≤ (100 : Int)) h_7 ?_
     refine K.q [.bool false, .bool false] (K.z (K.t (K.r ?_)))
     refine ⟨.inr rfl, rfl, (.bool false), K.res1 rfl rfl, [], ?_, hS.pick [1]⟩
     exact ⟨rfl, .inr ⟨by omega, rfl⟩⟩
   ·
    refine K.x ((((S.m.length : Nat) : Int) : Int) ≤ (100 : Int)) h_6 ?_
    refine K.q [.bool false, .bool false] (K.n_ (K.n_ (K.n_ (K.q [.bool false, .bool false] (K.z (K.t (K.r ?_)))))))
    refine ⟨.inr rfl, rfl, (.bool false), K.res1 rfl rfl, [], ?_, hS.pick [1]⟩
    exact ⟨rfl, .inr ⟨by omega, rfl⟩⟩
  ·
   refine K.x ((((S.s.length : Nat) : Int) : Int) ≤ (100 : Int)) h_5 ?_
   refine K.q [.bool false, .bool false] (K.n_ (K.n_ (K.n_ (K.n_ (K.q [.bool false, .bool false] (K.n_ (K.n_ (K.n_ (K.q [.bool false, .bool false] (K.z (K.t (K.r ?_))))))))))))
   refine ⟨.inr rfl, rfl, (.bool false), K.res1 rfl rfl, [], ?_, hS.pick [1]⟩
   exact ⟨rfl, .inr ⟨by omega, rfl⟩⟩
 ·
  refine K.x ((((S.q.length : Nat) : Int) : Int) ≤ (100 : Int)) h_4 ?_
  refine K.q [.bool false] (K.n_ (K.n_ (K.n_ (K.n_ (K.q [.bool false, .bool false] (K.n_ (K.n_ (K.n_ (K.n_ (K.q [.bool false, .bool false] (K.n_ (K.n_ (K.n_ (K.q [.bool false, .bool false] ?_))))))))))))))
  refine K.z (K.t (K.r ?_))
  refine ⟨.inr rfl, rfl, (.bool false), K.res1 rfl rfl, [], ?_, hS.pick [1]⟩
  exact ⟨rfl, .inr ⟨by omega, rfl⟩⟩
end Go.Proofs.Ytnehocjmgnhhhaa
