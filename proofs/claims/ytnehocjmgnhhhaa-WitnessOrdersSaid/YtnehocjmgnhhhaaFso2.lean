import Derived.Test.YtnehocjmgnhhhaaFso
import Derived.Test.YtnehocjmgnhhhaaKc
/- Witness: the sort: comparing, insertion. -/
namespace Go.Proofs.Ytnehocjmgnhhhaa
open Go.RowKit
set_option linter.unusedVariables false
attribute [local irreducible] K.KW K.RW K.DW K.OW K.QR K.KC K.DWM
set_option maxHeartbeats 1000000 in
set_option maxRecDepth 100000 in
theorem nanI_ok (w0 : World) (x : Int) :
    K.GC Try.prog w0 42 #[.int .i64 x] [] (fun v post => post = [] ∧ v = .bool false) := by
  refine K.GC.mk (n := 6) Try.func42 rfl rfl [.int .i64 x] rfl rfl ?_
  intro fr w hS
  replace hS : K.Sat w0 [fr] w := hS
  refine K.KW.seq ?_
  -- 0 :63
  refine K.KW.region ?_
  refine K.RW.qs [.bool false] (by kernel_rfl) ?_
  refine K.RW.nil ?_
  refine K.thn_normal ?_
  refine K.KW.seq ?_
  -- 1 :64
  refine K.KW.region ?_
  refine K.RW.qs [.int .i64 x, .int .i64 x] (by kernel_rfl) ?_
  refine K.RW.q rfl rfl (K.QR.nice (v := .bool ((x : Int) != (x : Int))) (by kernel_rfl) (congrArg Value.bool (bne_eq_false_iff_eq.2 (rfl)))) ?_
  refine K.RW.qs [.bool false] (by kernel_rfl) ?_
  refine K.RW.nil ?_
  refine K.thn_normal ?_
  refine K.KW.ret ?_
  refine ⟨.inr rfl, rfl, (.bool false), K.res1 rfl rfl, [], ?_, hS.pick [0]⟩
  exact ⟨rfl, rfl⟩
set_option maxHeartbeats 1000000 in
set_option maxRecDepth 100000 in
theorem cmpG_ok (w0 : World) (x y : Int) :
    K.GC Try.prog w0 25 #[.int .i64 x, .int .i64 y] [] (fun v post => post = [] ∧ v = .int .i64 (cmpI x y)) := by
  refine K.GC.mk (n := 20) Try.func25 rfl rfl [.int .i64 x, .int .i64 y] rfl rfl ?_
  intro fr w hS
  replace hS : K.Sat w0 [fr] w := hS
  refine K.KW.seq ?_
  -- 0 :40
  refine K.KW.region ?_
  refine K.RW.qs [.int .i64 0] (by kernel_rfl) ?_
  refine K.RW.nil ?_
  refine K.thn_normal ?_
  refine K.KW.seq ?_
  -- 1 :41
  refine K.KW.region ?_
  refine K.RW.qs [.int .i64 x] (by kernel_rfl) ?_
  refine K.RW.l rfl (K.OW.gcall hS [] [0] [.int .i64 x] (nanI_ok _ x) ?_)
  clear hS; rintro _ _ w ⟨rfl, rfl⟩ hS
  replace hS : K.Sat w0 [fr] w := hS
  refine K.RW.qs [.bool false] (by kernel_rfl) ?_
  refine K.RW.nil ?_
  refine K.thn_normal ?_
  refine K.KW.seq ?_
  -- 2 :42
  refine K.KW.region ?_
  refine K.RW.qs [.int .i64 y] (by kernel_rfl) ?_
  refine K.RW.l rfl (K.OW.gcall hS [] [0] [.int .i64 y] (nanI_ok _ y) ?_)
  clear hS; rintro _ _ w ⟨rfl, rfl⟩ hS
  replace hS : K.Sat w0 [fr] w := hS
  refine K.RW.qs [.bool false] (by kernel_rfl) ?_
  refine K.RW.nil ?_
  refine K.thn_normal ?_
  refine K.KW.seq ?_
  refine K.KW.seq ?_
  -- 3 :43
  refine K.KW.region ?_
  refine K.RW.qs [.bool false] (by kernel_rfl) ?_
  refine K.RW.nil ?_
  refine K.thn_normal ?_
  refine K.KW.ifF rfl ?_
  refine K.KW.skip ?_
  refine K.thn_normal ?_
  refine K.KW.seq ?_
  refine K.KW.seq ?_
  -- 7 :49
  refine K.KW.region ?_
  refine K.RW.qs [.bool false] (by kernel_rfl) ?_
  refine K.RW.nil ?_
  refine K.thn_normal ?_
  refine K.KW.ifF rfl ?_
  refine K.KW.skip ?_
  refine K.thn_normal ?_
  refine K.KW.seq ?_
  refine K.KW.seq ?_
  -- 9 :52
  refine K.KW.region ?_
  refine K.RW.qs [.int .i64 x, .int .i64 y] (by kernel_rfl) ?_
  by_cases h_1 : (x : Int) < (y : Int)
  ·  -- yes
    refine K.RW.q rfl rfl (K.QR.nice (v := .bool (decide ((x : Int) < (y : Int)))) (by kernel_rfl) (congrArg Value.bool (decide_eq_true h_1))) ?_
    refine K.RW.nil ?_
    refine K.thn_normal ?_
    refine K.KW.ifT rfl ?_
    refine K.KW.seq ?_
    -- 10 :53
    refine K.KW.region ?_
    refine K.RW.qs [.int .i64 (-1)] (by kernel_rfl) ?_
    refine K.RW.nil ?_
    refine K.thn_normal ?_
    refine K.KW.ret ?_
    refine K.thn_ret ?_
    refine ⟨.inr rfl, rfl, (.int .i64 (-1)), K.res1 rfl rfl, [], ?_, hS.pick [0]⟩
    exact ⟨rfl, congrArg (Value.int .i64) (by unfold cmpI; (repeat' split) <;> omega)⟩
  ·  -- no
    refine K.RW.q rfl rfl (K.QR.nice (v := .bool (decide ((x : Int) < (y : Int)))) (by kernel_rfl) (congrArg Value.bool (decide_eq_false h_1))) ?_
    refine K.RW.nil ?_
    refine K.thn_normal ?_
    refine K.KW.ifF rfl ?_
    refine K.KW.skip ?_
    refine K.thn_normal ?_
    refine K.KW.seq ?_
    refine K.KW.seq ?_
    -- 11 :55
    refine K.KW.region ?_
    refine K.RW.qs [.int .i64 x, .int .i64 y] (by kernel_rfl) ?_
    by_cases h_2 : (x : Int) > (y : Int)
    ·  -- yes
      refine K.RW.q rfl rfl (K.QR.nice (v := .bool (decide ((x : Int) > (y : Int)))) (by kernel_rfl) (congrArg Value.bool (decide_eq_true h_2))) ?_
      refine K.RW.nil ?_
      refine K.thn_normal ?_
      refine K.KW.ifT rfl ?_
      refine K.KW.seq ?_
      -- 12 :56
      refine K.KW.region ?_
      refine K.RW.qs [.int .i64 1] (by kernel_rfl) ?_
      refine K.RW.nil ?_
      refine K.thn_normal ?_
      refine K.KW.ret ?_
      refine K.thn_ret ?_
      refine ⟨.inr rfl, rfl, (.int .i64 1), K.res1 rfl rfl, [], ?_, hS.pick [0]⟩
      exact ⟨rfl, congrArg (Value.int .i64) (by unfold cmpI; (repeat' split) <;> omega)⟩
    ·  -- no
      refine K.RW.q rfl rfl (K.QR.nice (v := .bool (decide ((x : Int) > (y : Int)))) (by kernel_rfl) (congrArg Value.bool (decide_eq_false h_2))) ?_
      refine K.RW.nil ?_
      refine K.thn_normal ?_
      refine K.KW.ifF rfl ?_
      refine K.KW.skip ?_
      refine K.thn_normal ?_
      refine K.KW.seq ?_
      -- 13 :58
      refine K.KW.region ?_
      refine K.RW.qs [.int .i64 0] (by kernel_rfl) ?_
      refine K.RW.nil ?_
      refine K.thn_normal ?_
      refine K.KW.ret ?_
      refine ⟨.inr rfl, rfl, (.int .i64 0), K.res1 rfl rfl, [], ?_, hS.pick [0]⟩
      exact ⟨rfl, congrArg (Value.int .i64) (by unfold cmpI; (repeat' split) <;> omega)⟩
set_option maxHeartbeats 1000000 in
set_option maxRecDepth 100000 in
theorem order1_ok (w0 : World) (bc : Nat) (gc : K.Cs) (a : Option Addr) (cap : Nat) (L : List CallM) (hm : L.length ≤ 1000000) (hgc : gc = [K.pt bc 22 [.slice a L.length cap]]) (gx : K.Cs) (hx : ∀ w, K.Sat w0 [gx] w → K.RowE w a L.length 11 (fun i => cCall (L.getD i call0))) (x y : Int) (h1 : 0 ≤ x ∧ x < (L.length : Int)) (h2 : 0 ≤ y ∧ y < (L.length : Int)) :
    K.GC Try.prog w0 24 #[.int .i64 x, .int .i64 y, .pointer (some ⟨bc, 0, none⟩)] [gc, gx] (fun v post => post = [gc, gx] ∧ v = .int .i64 (cmpI (keyL L x) (keyL L y))) := by
  refine K.GC.mk (n := 17) Try.func24 rfl rfl [.int .i64 x, .int .i64 y, .pointer (some ⟨bc, 0, none⟩)] rfl rfl ?_
  intro fr w hS
  replace hS : K.Sat w0 [gc, gx, fr] w := hS
  refine K.KW.seq ?_
  -- 0 :20
  refine K.KW.region ?_
  refine K.RW.qs [.int .i64 0] (by kernel_rfl) ?_
  refine K.RW.nil ?_
  refine K.thn_normal ?_
  refine K.KW.seq ?_
  -- 1 :20
  obtain ⟨b_1, of_2, rfl, _⟩ := (hx _ (hS.pick [1])).at_ (by omega)
  refine K.KW.gdrawn [0, 1] hS (by kernel_rfl) ?_
  clear hS; intro w hS
  refine K.DW.q 0 (by kernel_rfl) rfl rfl (by kernel_rfl) rfl (fun w hS => K.QR.ld1 (v := .slice (some ⟨b_1, of_2, none⟩) L.length cap) rfl rfl (by kernel_rfl) ((hS.blk 0 rfl hgc).cell rfl)) (hS.pick [0, 1]) ?_
  refine K.DW.q 1 (by kernel_rfl) rfl rfl (by kernel_rfl) rfl (fun w hS => K.QR.k (v := .int .i64 x) (by kernel_rfl)) (hS.pick [0, 1]) ?_
  refine K.DW.q 2 (by kernel_rfl) rfl rfl (by kernel_rfl) rfl (fun w hS => K.QR.ix (of_2 + x.toNat * 11) 11 rfl rfl rfl Try.underlying22 (by kernel_rfl) (by omega) (by first | (simp; done) | omega | (simp; omega))) (hS.pick [0, 1]) ?_
  refine K.DW.q 3 (by kernel_rfl) rfl rfl (by kernel_rfl) rfl (fun w hS => K.QR.k (v := .pointer (some ⟨b_1, of_2 + x.toNat * 11 + 8, none⟩)) (by kernel_rfl)) (hS.pick [0, 1]) ?_
  refine K.DW.q 4 (by kernel_rfl) rfl rfl (by kernel_rfl) rfl (fun w hS => K.QR.ld1 (v := .int .i64 ((L.getD x.toNat call0).wh)) rfl rfl (by kernel_rfl) ((hx _ (hS.pick [1])).ld x.toNat (by omega) 8 _ rfl)) (hS.pick [0, 1]) ?_
  refine K.DW.q 5 (by kernel_rfl) rfl rfl (by kernel_rfl) rfl (fun w hS => K.QR.ld1 (v := .slice (some ⟨b_1, of_2, none⟩) L.length cap) rfl rfl (by kernel_rfl) ((hS.blk 0 rfl hgc).cell rfl)) (hS.pick [0, 1]) ?_
  refine K.DW.l 6 rfl (by kernel_rfl) rfl (K.OW.q rfl (K.QR.k (v := .int .i64 y) (by kernel_rfl)) ?_)
  refine ⟨.inl (hS.pick [0, 1]), ?_⟩
  refine K.DW.l 7 rfl (by kernel_rfl) rfl (K.OW.q rfl (K.QR.ix (of_2 + y.toNat * 11) 11 rfl rfl rfl Try.underlying22 (by kernel_rfl) (by omega) (by first | (simp; done) | omega | (simp; omega))) ?_)
  refine ⟨.inl (hS.pick [0, 1]), ?_⟩
  refine K.DW.l 8 rfl (by kernel_rfl) rfl (K.OW.q rfl (K.QR.k (v := .pointer (some ⟨b_1, of_2 + y.toNat * 11 + 8, none⟩)) (by kernel_rfl)) ?_)
  refine ⟨.inl (hS.pick [0, 1]), ?_⟩
  refine K.DW.l 9 rfl (by kernel_rfl) rfl (K.OW.q rfl (K.QR.ld1 (v := .int .i64 ((L.getD y.toNat call0).wh)) rfl rfl (by kernel_rfl) ((hx _ (hS.pick [1])).ld y.toNat (by omega) 8 _ rfl)) ?_)
  refine ⟨.inl (hS.pick [0, 1]), ?_⟩
  refine K.DW.l 10 rfl (by kernel_rfl) rfl (K.OW.gcall hS [] [0, 1, 2] [.int .i64 ((L.getD x.toNat call0).wh), .int .i64 ((L.getD y.toNat call0).wh)] (cmpG_ok _ ((L.getD x.toNat call0).wh) ((L.getD y.toNat call0).wh)) ?_)
  clear hS; rintro _ _ w ⟨rfl, rfl⟩ hS
  replace hS : K.Sat w0 [gc, gx, fr] w := hS
  refine ⟨.inl (hS.pick [0, 1]), ?_⟩
  refine K.DW.l 11 rfl (by kernel_rfl) rfl (K.OW.q rfl (K.QR.k (v := .int .i64 (cmpI ((L.getD x.toNat call0).wh) ((L.getD y.toNat call0).wh))) (by kernel_rfl)) ?_)
  refine ⟨.inl (hS.pick [0, 1]), ?_⟩
  refine K.DW.done (by kernel_rfl) ?_
  refine K.thn_normal ?_
  refine K.KW.ret ?_
  refine ⟨.inr rfl, rfl, (.int .i64 (cmpI ((L.getD x.toNat call0).wh) ((L.getD y.toNat call0).wh))), K.res1 rfl rfl, [gc, gx], ?_, hS.pick [0, 1, 2]⟩
  exact ⟨rfl, rfl⟩
end Go.Proofs.Ytnehocjmgnhhhaa
