import Derived.Test.YtnehocjmgnhhhaaFen
/- Witness: what is asked first. -/
namespace Go.Proofs.Ytnehocjmgnhhhaa
open Go.RowKit
set_option linter.unusedVariables false
attribute [local irreducible] K.KW K.RW K.DW K.OW K.QR K.KC
/-- a state that may be -/
def okS (S : StM) : Prop := rising S.s ∧ rising (keysP S.m)
theorem okS_iff (S : StM) : (risingB S.s && risingB (keysP S.m)) = true ↔ okS S := by
  unfold okS
  rw [Bool.and_eq_true]
  have key : ∀ ks : List Int, risingB ks = true ↔ rising ks := fun ks => by
    constructor
    · intro h i hi
      refine Classical.byContradiction fun hn => ?_
      have := risingB_f hi hn
      rw [h] at this; cases this
    · intro h
      exact (risingB_t h).symm
  rw [key, key]
theorem rightS_ok (w0 : World) (q s m : Option Addr) (cq cs cm : Nat) (S : StM) (g : K.Cs) (x : RdSt w0 g q s m cq S) (h2 : S.s.length ≤ 1000) (h3 : S.m.length ≤ 1000) :
    K.GC Try.prog w0 43 #[stA q cq s cs m cm S] [g] (fun v post => post = [g] ∧ ((okS S ∧ v = .bool true) ∨ (¬ okS S ∧ v = .bool false))) := fun fr w hS => by
  obtain ⟨qa, sa, ma⟩ := S
  obtain ⟨x1, x2, x3, hc⟩ := x
  refine K.KC.mono (right_ok q s m qa.length cq cs cm sa ma w h2 h3 (x2 _ (hS.pick [0])) (x3 _ (hS.pick [0]))) ?_
  rintro v w' ⟨rfl, hch⟩
  refine ⟨[g], ⟨rfl, ?_⟩, hS.no hch⟩
  have hi := okS_iff ⟨qa, sa, ma⟩
  by_cases ho : okS ⟨qa, sa, ma⟩
  · exact .inl ⟨ho, congrArg Value.bool (hi.2 ho)⟩
  · refine .inr ⟨ho, congrArg Value.bool ?_⟩
    cases hb : (risingB sa && risingB (keysP ma)) with
    | true => exact absurd (hi.1 hb) ho
    | false => rfl
set_option maxHeartbeats 1000000 in
set_option maxRecDepth 100000 in
theorem asked_ok (w0 : World) (a : Option Addr) (cap : Nat) (L : List CallM) (hm : L.length ≤ 1000000) (gx : K.Cs) (hx : ∀ w, K.Sat w0 [gx] w → K.RowE w a L.length 11 (fun i => cCall (L.getD i call0))) (q s mm : Option Addr) (cq cs cm : Nat) (S : StM) (hl2 : S.s.length ≤ 1000) (hl3 : S.m.length ≤ 1000) (g : K.Cs) (x : RdSt w0 g q s mm cq S) :
    K.GC Try.prog w0 28 #[.agg #[.slice q S.q.length cq, .slice s S.s.length cs, .slice mm S.m.length cm], .slice a L.length cap] [g, gx] (fun v post => post = [g, gx] ∧ ((¬ okS S ∧ v = .int .i64 1) ∨ (okS S ∧ ¬ rightH L ∧ v = .int .i64 3) ∨ (okS S ∧ rightH L ∧ v = .int .i64 0))) := by
  refine K.GC.mk (n := 13) Try.func28 rfl rfl [.agg #[.slice q S.q.length cq, .slice s S.s.length cs, .slice mm S.m.length cm], .slice a L.length cap] rfl rfl ?_
  intro fr w hS
  replace hS : K.Sat w0 [g, gx, fr] w := hS
  refine K.KW.seq ?_
  -- 0 :49
  refine K.KW.region ?_
  refine K.RW.l rfl (K.OW.gnew 30 [.slice q S.q.length cq, .slice s S.s.length cs, .slice mm S.m.length cm] hS ?_)
  clear hS; intro w r_1 g_2 hg_3 hS
  refine K.RW.qs [.int .i64 0] (by kernel_rfl) ?_
  refine K.RW.nil ?_
  refine K.thn_normal ?_
  refine K.KW.seq ?_
  refine K.KW.block ?_
  refine K.KW.seq ?_
  -- 1 :51
  refine K.KW.region ?_
  refine K.RW.q rfl rfl (K.QR.ldN [.slice q S.q.length cq, .slice s S.s.length cs, .slice mm S.m.length cm] rfl rfl (by kernel_rfl) (by kernel_rfl) (K.cells (K.cl ((hS.blk 0 rfl hg_3).cell rfl) (K.cl ((hS.blk 0 rfl hg_3).cell rfl) (K.cl ((hS.blk 0 rfl hg_3).cell rfl) K.cl0))))) ?_
  refine K.RW.l rfl (K.OW.gcall hS [1] [0, 2, 3] [.agg #[.slice q S.q.length cq, .slice s S.s.length cs, .slice mm S.m.length cm]] (rightS_ok _ q s mm cq cs cm S _ x (by omega) (by omega)) ?_)
  clear hS; rintro _ _ w ⟨rfl, (⟨h_4, rfl⟩ | ⟨h_5, rfl⟩)⟩ hS
  ·
    replace hS : K.Sat w0 [g, g_2, gx, fr] w := hS
    refine K.RW.qs [.bool false, .bool false] (by kernel_rfl) ?_
    refine K.RW.nil ?_
    refine K.thn_normal ?_
    refine K.KW.ifF rfl ?_
    refine K.KW.seq ?_
    -- 3 :53
    refine K.KW.region ?_
    refine K.RW.qs [.slice a L.length cap] (by kernel_rfl) ?_
    refine K.RW.l rfl (K.OW.gcall hS [2] [0, 1, 3] [.slice a L.length cap] (hright_ok _ _ _ L (by omega) _ hx) ?_)
    clear hS; rintro _ _ w ⟨rfl, (⟨h_6, rfl⟩ | ⟨h_7, rfl⟩)⟩ hS
    ·
      replace hS : K.Sat w0 [gx, g, g_2, fr] w := hS
      refine K.RW.qs [.bool false, .bool false] (by kernel_rfl) ?_
      refine K.RW.nil ?_
      refine K.thn_normal ?_
      refine K.KW.ifF rfl ?_
      refine K.KW.skip ?_
      refine K.blk_normal ?_
      refine K.thn_normal ?_
      refine K.KW.seq ?_
      -- 5 :56
      refine K.KW.region ?_
      refine K.RW.qs [.int .i64 0] (by kernel_rfl) ?_
      refine K.RW.nil ?_
      refine K.thn_normal ?_
      refine K.KW.ret ?_
      refine ⟨.inr rfl, rfl, (.int .i64 0), K.res1 rfl rfl, [g, gx], ?_, hS.pick [1, 0, 3]⟩
      exact ⟨rfl, .inr (.inr ⟨h_4, h_6, rfl⟩)⟩
    ·
      replace hS : K.Sat w0 [gx, g, g_2, fr] w := hS
      refine K.RW.qs [.bool true, .bool true] (by kernel_rfl) ?_
      refine K.RW.nil ?_
      refine K.thn_normal ?_
      refine K.KW.ifT rfl ?_
      refine K.KW.seq ?_
      -- 4 :54
      refine K.KW.region ?_
      refine K.RW.qs [.int .i64 3] (by kernel_rfl) ?_
      refine K.RW.nil ?_
      refine K.thn_normal ?_
      refine K.KW.ret ?_
      refine K.blk_ret ?_
      refine K.thn_ret ?_
      refine ⟨.inr rfl, rfl, (.int .i64 3), K.res1 rfl rfl, [g, gx], ?_, hS.pick [1, 0, 3]⟩
      exact ⟨rfl, .inr (.inl ⟨h_4, h_7, rfl⟩)⟩
  ·
    replace hS : K.Sat w0 [g, g_2, gx, fr] w := hS
    refine K.RW.qs [.bool true, .bool true] (by kernel_rfl) ?_
    refine K.RW.nil ?_
    refine K.thn_normal ?_
    refine K.KW.ifT rfl ?_
    refine K.KW.seq ?_
    -- 2 :52
    refine K.KW.region ?_
    refine K.RW.qs [.int .i64 1] (by kernel_rfl) ?_
    refine K.RW.nil ?_
    refine K.thn_normal ?_
    refine K.KW.ret ?_
    refine K.blk_ret ?_
    refine K.thn_ret ?_
    refine ⟨.inr rfl, rfl, (.int .i64 1), K.res1 rfl rfl, [g, gx], ?_, hS.pick [0, 2, 3]⟩
    exact ⟨rfl, .inl ⟨h_5, rfl⟩⟩
end Go.Proofs.Ytnehocjmgnhhhaa
