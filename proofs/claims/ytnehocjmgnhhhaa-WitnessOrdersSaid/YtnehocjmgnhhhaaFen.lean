import Derived.Test.YtnehocjmgnhhhaaFty
/- Witness: the search as an iterator. -/
namespace Go.Proofs.Ytnehocjmgnhhhaa
open Go.RowKit
set_option linter.unusedVariables false
attribute [local irreducible] K.KW K.RW K.DW K.OW K.QR K.KC
theorem try_all (w0 : World) (bx : Nat) (gb : K.Cs) (a bu : Option Addr) (cap cu : Nat) (L : List CallM) (hm : L.length ≤ 1000000) (hgb : gb = [K.pt bx 85 [.slice a L.length cap, .slice bu L.length cu]]) (gx : K.Cs) (hx : ∀ w, K.Sat w0 [gx] w → K.RowE w a L.length 11 (fun i => cCall (L.getD i call0)))
    (l : Nat) (J : List StM → K.Cs → K.Cs → Prop) (E : K.Cs → K.Cs → Prop) (hJG : ∀ d, JGrow w0 (J d)) (hEG : JGrow w0 E) (Dt : List StM) (hY : YldS Try.prog w0 l Dt J E) : ∀ f : Nat, ∀ (U : List Bool) (gu g m : K.Cs) (done : List StM) (q s mm : Option Addr) (cq cs cm : Nat) (S : StM) (k : Nat), U.length = L.length → U.count false < f → K.OwnG gu 4 1 bu L.length cu (U.flatMap cBool) → J done g m → RdSt w0 g q s mm cq S → goodS k S → k + U.count false ≤ 1000000 → (done ++ endsN L f S U) <+: Dt → K.GC Try.prog w0 65 #[.pointer (some ⟨bx, 0, none⟩), stA q cq s cs mm cm S, .func (.yield l) #[] #[]] [gb, gu, gx, g, m] (TryR w0 bu cu U gb gx g J E (done ++ endsN L f S U))
  | 0, _, _, _, _, _, _, _, _, _, _, _, _, _, _, h, _, _, _, _, _, _ => by omega
  | f + 1, U, gu, g, m, done, q, s, mm, cq, cs, cm, S, k, hU, hc, hu, hJ, x, hg, hk, hp =>
    try_step w0 bx gb gu a bu cap cu L U hm hU hgb hu gx hx l J E hJG hEG Dt hY f (try_all w0 bx gb a bu cap cu L hm hgb gx hx l J E hJG hEG Dt hY f) hc g m done hJ q s mm cq cs cm S k x hg hk hp
set_option maxHeartbeats 1000000 in
set_option maxRecDepth 100000 in
theorem ends1_ok (w0 : World) (b1 b2 bx : Nat) (g1 g2 : K.Cs) (hg1 : g1 = [K.pt b1 83 [.pointer (some ⟨bx, 0, none⟩)]]) (gb gu : K.Cs) (a bu : Option Addr) (cap cu : Nat) (L : List CallM) (U : List Bool) (hm : L.length ≤ 1000000) (hU : U.length = L.length) (hgb : gb = [K.pt bx 85 [.slice a L.length cap, .slice bu L.length cu]]) (hu : K.OwnG gu 4 1 bu L.length cu (U.flatMap cBool)) (gx : K.Cs) (hx : ∀ w, K.Sat w0 [gx] w → K.RowE w a L.length 11 (fun i => cCall (L.getD i call0))) (l : Nat) (J : List StM → K.Cs → K.Cs → Prop) (E : K.Cs → K.Cs → Prop) (hJG : ∀ d, JGrow w0 (J d)) (hEG : JGrow w0 E) (Dt : List StM) (hY : YldS Try.prog w0 l Dt J E) (g m : K.Cs) (done : List StM) (hJ0 : J done g m) (q s mm : Option Addr) (cq cs cm : Nat) (S : StM) (k : Nat) (x : RdSt w0 g q s mm cq S) (hgd : goodS k S) (hkc : k + U.count false ≤ 1000000) (hpre : (done ++ endsN L (U.count false + 1) S U) <+: Dt) (hg2 : g2 = [K.pt b2 30 [.slice q S.q.length cq, .slice s S.s.length cs, .slice mm S.m.length cm]]) :
    K.GC Try.prog w0 64 #[.func (.yield l) #[] #[], .pointer (some ⟨b1, 0, none⟩), .pointer (some ⟨b2, 0, none⟩)] [g1, g2, gb, gu, gx, g, m] (fun v post => ∃ gu' g' m', post = [g1, g2, gb, gu', gx, g', m'] ∧ Grow w0 g g' ∧ (J (done ++ endsN L (U.count false + 1) S U) g' m' ∨ E g' m')) := by
  refine K.GC.mk (n := 8) Try.func64 rfl rfl [.func (.yield l) #[] #[], .pointer (some ⟨b1, 0, none⟩), .pointer (some ⟨b2, 0, none⟩)] rfl rfl ?_
  intro fr w hS
  replace hS : K.Sat w0 [g1, g2, gb, gu, gx, g, m, fr] w := hS
  -- 0 :106
  refine K.KW.region ?_
  refine K.RW.q rfl rfl (K.QR.ld1 (v := .pointer (some ⟨bx, 0, none⟩)) rfl rfl (by kernel_rfl) ((hS.blk 0 rfl hg1).cell rfl)) ?_
  refine K.RW.q rfl rfl (K.QR.ldN [.slice q S.q.length cq, .slice s S.s.length cs, .slice mm S.m.length cm] rfl rfl (by kernel_rfl) (by kernel_rfl) (K.cells (K.cl ((hS.blk 1 rfl hg2).cell rfl) (K.cl ((hS.blk 1 rfl hg2).cell rfl) (K.cl ((hS.blk 1 rfl hg2).cell rfl) K.cl0))))) ?_
  refine K.RW.qs [.func (.yield l) #[] #[]] (by kernel_rfl) ?_
  refine K.RW.l rfl (K.OW.gcall hS [2, 3, 4, 5, 6] [0, 1, 7] [.pointer (some ⟨bx, 0, none⟩), .agg #[.slice q S.q.length cq, .slice s S.s.length cs, .slice mm S.m.length cm], .func (.yield l) #[] #[]] (try_all _ _ _ _ _ _ _ L hm hgb gx hx l J E hJG hEG Dt hY (U.count false + 1) U _ _ _ done q s mm cq cs cm S k hU (by omega) hu hJ0 x hgd hkc hpre) ?_)
  clear hS; rintro _ _ w ⟨gu_1, g_2, m_3, rfl, hu0_4, hg_5, hv_6⟩ hS
  replace hS : K.Sat w0 [gb, gu_1, gx, g_2, m_3, g1, g2, fr] w := hS
  refine K.RW.nil ?_
  refine ⟨.inl rfl, rfl, (.tuple #[]), K.res0 rfl, [g1, g2, gb, gu_1, gx, g_2, m_3], ?_, hS.pick [5, 6, 0, 1, 2, 3, 4, 7]⟩
  exact ⟨_, _, _, rfl, hg_5, hv_6.imp (fun h => h.2) (fun h => h.2)⟩
set_option maxHeartbeats 1000000 in
set_option maxRecDepth 100000 in
theorem ends0_ok (w0 : World) (bx : Nat) (q s mm : Option Addr) (cq cs cm : Nat) (S : StM) :
    K.GC Try.prog w0 50 #[.pointer (some ⟨bx, 0, none⟩), .agg #[.slice q S.q.length cq, .slice s S.s.length cs, .slice mm S.m.length cm]] [] (fun v post => ∃ b1 b2 g1 g2, v = .func (.func 64) [].toArray [.pointer (some ⟨b1, 0, none⟩), .pointer (some ⟨b2, 0, none⟩)].toArray ∧ post = [g1, g2] ∧ g1 = [K.pt b1 83 [.pointer (some ⟨bx, 0, none⟩)]] ∧ g2 = [K.pt b2 30 [.slice q S.q.length cq, .slice s S.s.length cs, .slice mm S.m.length cm]]) := by
  refine K.GC.mk (n := 6) Try.func50 rfl rfl [.pointer (some ⟨bx, 0, none⟩), .agg #[.slice q S.q.length cq, .slice s S.s.length cs, .slice mm S.m.length cm]] rfl rfl ?_
  intro fr w hS
  replace hS : K.Sat w0 [fr] w := hS
  refine K.KW.seq ?_
  -- 0 :105
  refine K.KW.region ?_
  refine K.RW.l rfl (K.OW.gnew 83 [.pointer (some ⟨bx, 0, none⟩)] hS ?_)
  clear hS; intro w r_1 g_2 hg_3 hS
  refine K.RW.l rfl (K.OW.gnew 30 [.slice q S.q.length cq, .slice s S.s.length cs, .slice mm S.m.length cm] hS ?_)
  clear hS; intro w r_4 g_5 hg_6 hS
  refine K.RW.qs [.nilFunc] (by kernel_rfl) ?_
  refine K.RW.nil ?_
  refine K.thn_normal ?_
  refine K.KW.seq ?_
  -- 1 :106
  refine K.KW.region ?_
  refine K.RW.q rfl rfl (K.QR.fn [] [.pointer (some ⟨r_1, 0, none⟩), .pointer (some ⟨r_4, 0, none⟩)] rfl rfl rfl) ?_
  refine K.RW.qs [.func (.func 64) [].toArray [.pointer (some ⟨r_1, 0, none⟩), .pointer (some ⟨r_4, 0, none⟩)].toArray] (by kernel_rfl) ?_
  refine K.RW.nil ?_
  refine K.thn_normal ?_
  refine K.KW.ret ?_
  refine ⟨.inr rfl, rfl, (.func (.func 64) [].toArray [.pointer (some ⟨r_1, 0, none⟩), .pointer (some ⟨r_4, 0, none⟩)].toArray), K.res1 rfl rfl, [g_2, g_5], ?_, hS.pick [1, 0, 2]⟩
  exact ⟨_, _, _, _, rfl, rfl, hg_3, hg_6⟩
end Go.Proofs.Ytnehocjmgnhhhaa
