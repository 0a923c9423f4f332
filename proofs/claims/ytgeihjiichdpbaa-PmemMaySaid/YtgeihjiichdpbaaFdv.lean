/- The device: what it is in memory; its small methods. -/
import Derived.Test.YtgeihjiichdpbaaKg
import Derived.Test.YtgeihjiichdpbaaFlz
import Derived.Test.YtgeihjiichdpbaaFsl2
namespace Go.Proofs.Ytgeihjiichdpbaa
open Go.RowKit
set_option linter.unusedVariables false
attribute [local irreducible] K.KW K.RW K.DW K.OW K.QR K.KC

/-- a device: of each word what is kept and seen, of each line how often it was written back, of each thread and line whether it flushes it -/
structure DevM where
  kept : List Int
  seen : List Int
  writes : List Int
  flush : List (List Bool)
def truesF (k : Nat) : List Bool → List Int
  | [] => []
  | b :: B => if b then (k : Int) :: truesF (k + 1) B else truesF (k + 1) B
/-- the places of a list that are true -/
def trues (B : List Bool) : List Int := truesF 0 B
def cV (v : Value) : List Value := [v]
theorem cV_flat : ∀ vs : List Value, vs.flatMap cV = vs
  | [] => rfl
  | v :: vs => by rw [List.flatMap_cons, cV_flat vs]; rfl
def DevM.ok (D : DevM) (n t : Nat) : Prop := D.kept.length = n * 8 ∧ D.seen.length = n * 8 ∧ D.writes.length = n ∧ D.flush.length = t ∧ (∀ B ∈ D.flush, B.length = n) ∧ 1 ≤ n ∧ n ≤ 262144 ∧ 1 ≤ t ∧ t ≤ 64
def SetG (g : K.Cs) (v : Value) (B : List Bool) : Prop := ∃ a c, v = .slice a (trues B).length c ∧ K.OwnG g 3 1 a (trues B).length c ((trues B).flatMap cI64)
def SetsAt : List K.Cs → List Value → List (List Bool) → Prop
  | [], [], [] => True
  | g :: gs, v :: vs, B :: Bs => SetG g v B ∧ SetsAt gs vs Bs
  | _, _, _ => False
def SetsG (z : K.Cs) (vs : List Value) (Bs : List (List Bool)) : Prop := ∃ gs, z = gs.flatten ∧ SetsAt gs vs Bs
def DevAt (l : K.Cs) (p n t : Nat) (D : DevM) : Prop :=
  ∃ (g gk gs gw gf gz : K.Cs) (vs : List Value) (ka sa wa fa : Option Addr) (ck cs cw cf : Nat), l = [g, gk, gs, gw, gf, gz].flatten ∧
    g = [K.pt p 119 [.slice ka n ck, .slice sa n cs, .slice wa n cw, .slice fa t cf]] ∧ K.OwnG gk 148 8 ka n ck (D.kept.flatMap cU64) ∧ K.OwnG gs 148 8 sa n cs (D.seen.flatMap cU64) ∧
    K.OwnG gw 3 1 wa n cw (D.writes.flatMap cI64) ∧ K.OwnG gf 136 1 fa t cf (vs.flatMap cV) ∧ vs.length = t ∧ SetsG gz vs D.flush ∧ D.ok n t
theorem DevAt.isok {l : K.Cs} {p n t : Nat} {D : DevM} (x : DevAt l p n t D) : D.ok n t := by
  obtain ⟨_, _, _, _, _, _, _, _, _, _, _, _, _, _, _, _, _, _, _, _, _, _, _, h⟩ := x; exact h
abbrev isInt (x : Int) : Prop := -9223372036854775808 ≤ x ∧ x ≤ 9223372036854775807

set_option maxHeartbeats 1000000 in
set_option maxRecDepth 100000 in
theorem dvLines_ok (w0 : World) (p n t : Nat) (D : DevM) (l : K.Cs) (x : DevAt l p n t D) :
    K.GC Try.prog w0 42 #[.pointer (some ⟨p, 0, none⟩)] [l] (fun v post => v = .int .i64 n ∧ post = [l]) := by
  refine K.GC.mk (n := 10) Try.func42 rfl rfl [.pointer (some ⟨p, 0, none⟩)] rfl rfl ?_
  intro fr w hS
  replace hS : K.Sat w0 [l, fr] w := hS
  refine K.KW.seq ?_
  -- 0 :70
  refine K.KW.region ?_
  refine K.RW.qs [.int .i64 0] (by kernel_rfl) ?_
  refine K.RW.nil ?_
  refine K.thn_normal ?_
  refine K.KW.seq ?_
  refine K.KW.seq ?_
  -- 1 :71
  refine K.KW.region ?_
  refine K.RW.qs [.pointer (some ⟨p, 0, none⟩), .bool false] (by kernel_rfl) ?_
  refine K.RW.nil ?_
  refine K.thn_normal ?_
  refine K.KW.ifF rfl ?_
  refine K.KW.skip ?_
  refine K.thn_normal ?_
  refine K.KW.seq ?_
  -- 3 :74
  obtain ⟨g, gk, gs, gw, gf, gz, vs, ka, sa, wa, fa, ck, cs, cw, cf, rfl, hg, ok, os, ow, of, lv, oz, dk⟩ := x
  have dk2 := dk; obtain ⟨lk, ls, lw, lf, lB, n0, n1, t0, t1⟩ := dk2
  replace hS : K.Sat w0 [g, gk, gs, gw, gf, gz, fr] w := hS.of
  refine K.KW.region ?_
  refine K.RW.qs [.pointer (some ⟨p, 0, none⟩), .pointer (some ⟨p, 0, none⟩), .pointer (some ⟨p, 1, none⟩)] (by kernel_rfl) ?_
  refine K.RW.q rfl rfl (K.QR.ld1 (v := .slice sa n cs) rfl rfl (by kernel_rfl) ((hS.blk 0 rfl hg).cell rfl)) ?_
  refine K.RW.q rfl rfl (K.QR.len (P := Try.prog) rfl rfl Try.underlying116) ?_
  refine K.RW.qs [.int .i64 ((n : Nat) : Int)] (by kernel_rfl) ?_
  refine K.RW.nil ?_
  refine K.thn_normal ?_
  refine K.KW.ret ?_
  replace hS : K.Sat w0 [[g, gk, gs, gw, gf, gz].flatten, fr] w := (hS.pick [0, 1, 2, 3, 4, 5, 6]).of
  refine ⟨.inr rfl, rfl, (.int .i64 ((n : Nat) : Int)), K.res1 rfl rfl, [[g, gk, gs, gw, gf, gz].flatten], ?_, hS.pick [0, 1]⟩
  exact ⟨rfl, rfl⟩

set_option maxHeartbeats 1000000 in
set_option maxRecDepth 100000 in
theorem dvLines_nil (w0 : World)  :
    K.GC Try.prog w0 42 #[.pointer none] [] (fun v post => v = .int .i64 0 ∧ post = []) := by
  refine K.GC.mk (n := 10) Try.func42 rfl rfl [.pointer none] rfl rfl ?_
  intro fr w hS
  replace hS : K.Sat w0 [fr] w := hS
  refine K.KW.seq ?_
  -- 0 :70
  refine K.KW.region ?_
  refine K.RW.qs [.int .i64 0] (by kernel_rfl) ?_
  refine K.RW.nil ?_
  refine K.thn_normal ?_
  refine K.KW.seq ?_
  refine K.KW.seq ?_
  -- 1 :71
  refine K.KW.region ?_
  refine K.RW.qs [.pointer none, .bool true] (by kernel_rfl) ?_
  refine K.RW.nil ?_
  refine K.thn_normal ?_
  refine K.KW.ifT rfl ?_
  refine K.KW.seq ?_
  -- 2 :72
  refine K.KW.region ?_
  refine K.RW.qs [.int .i64 0] (by kernel_rfl) ?_
  refine K.RW.nil ?_
  refine K.thn_normal ?_
  refine K.KW.ret ?_
  refine K.thn_ret ?_
  refine ⟨.inr rfl, rfl, (.int .i64 0), K.res1 rfl rfl, [], ?_, hS.pick [0]⟩
  exact ⟨rfl, rfl⟩

set_option maxHeartbeats 1000000 in
set_option maxRecDepth 100000 in
theorem dvWord_ok (w0 : World) (p n t : Nat) (D : DevM) (l : K.Cs) (x : DevAt l p n t D) (i : Int) (hi : isInt i) :
    K.GC Try.prog w0 99 #[.pointer (some ⟨p, 0, none⟩), .int .i64 i] [l] (fun v post => post = [l] ∧ ((v = .int .i64 0 ∧ 0 ≤ i ∧ i < n * 8) ∨ (v = .int .i64 5 ∧ ¬(0 ≤ i ∧ i < n * 8)))) := by
  refine K.GC.mk (n := 21) Try.func99 rfl rfl [.pointer (some ⟨p, 0, none⟩), .int .i64 i] rfl rfl ?_
  intro fr w hS
  replace hS : K.Sat w0 [l, fr] w := hS
  refine K.KW.seq ?_
  -- 0 :78
  refine K.KW.region ?_
  refine K.RW.qs [.int .i64 0] (by kernel_rfl) ?_
  refine K.RW.nil ?_
  refine K.thn_normal ?_
  refine K.KW.seq ?_
  refine K.KW.block ?_
  refine K.KW.seq ?_
  -- 1 :80
  refine K.KW.region ?_
  refine K.RW.qs [.pointer (some ⟨p, 0, none⟩), .bool false, .bool false] (by kernel_rfl) ?_
  refine K.RW.nil ?_
  refine K.thn_normal ?_
  refine K.KW.ifF rfl ?_
  refine K.KW.seq ?_
  -- 3 :82
  obtain ⟨g, gk, gs, gw, gf, gz, vs, ka, sa, wa, fa, ck, cs, cw, cf, rfl, hg, ok, os, ow, of, lv, oz, dk⟩ := x
  have dk2 := dk; obtain ⟨lk, ls, lw, lf, lB, n0, n1, t0, t1⟩ := dk2
  replace hS : K.Sat w0 [g, gk, gs, gw, gf, gz, fr] w := hS.of
  refine K.KW.region ?_
  refine K.RW.qs [.int .i64 i] (by kernel_rfl) ?_
  by_cases h_1 : (i : Int) < (0 : Int)
  ·  -- yes
    refine K.RW.q rfl rfl (K.QR.nice (v := .bool (decide ((i : Int) < (0 : Int)))) (by kernel_rfl) (congrArg Value.bool (decide_eq_true h_1))) ?_
    refine K.RW.qs [.bool true] (by kernel_rfl) ?_
    refine K.RW.skip rfl (by kernel_rfl) ?_
    refine K.RW.skip rfl (by kernel_rfl) ?_
    refine K.RW.skip rfl (by kernel_rfl) ?_
    refine K.RW.skip rfl (by kernel_rfl) ?_
    refine K.RW.skip rfl (by kernel_rfl) ?_
    refine K.RW.skip rfl (by kernel_rfl) ?_
    refine K.RW.skip rfl (by kernel_rfl) ?_
    refine K.RW.skip rfl (by kernel_rfl) ?_
    refine K.RW.qs [.bool true, .bool true] (by kernel_rfl) ?_
    refine K.RW.nil ?_
    refine K.thn_normal ?_
    refine K.KW.ifT rfl ?_
    refine K.KW.seq ?_
    -- 4 :83
    refine K.KW.region ?_
    refine K.RW.qs [.int .i64 5] (by kernel_rfl) ?_
    refine K.RW.nil ?_
    refine K.thn_normal ?_
    refine K.KW.ret ?_
    refine K.blk_ret ?_
    refine K.thn_ret ?_
    replace hS : K.Sat w0 [[g, gk, gs, gw, gf, gz].flatten, fr] w := (hS.pick [0, 1, 2, 3, 4, 5, 6]).of
    refine ⟨.inr rfl, rfl, (.int .i64 5), K.res1 rfl rfl, [[g, gk, gs, gw, gf, gz].flatten], ?_, hS.pick [0, 1]⟩
    exact ⟨rfl, .inr ⟨rfl, by omega⟩⟩
  ·  -- no
    refine K.RW.q rfl rfl (K.QR.nice (v := .bool (decide ((i : Int) < (0 : Int)))) (by kernel_rfl) (congrArg Value.bool (decide_eq_false h_1))) ?_
    refine K.RW.qs [.bool false, .int .i64 i] (by kernel_rfl) ?_
    refine K.RW.q rfl (by kernel_rfl) (K.QR.quoi64 (i : Int) 8 ((i : Int) / 8) (by kernel_rfl) (by omega) (by omega)) ?_
    refine K.RW.qs [.pointer (some ⟨p, 0, none⟩), .pointer (some ⟨p, 0, none⟩), .pointer (some ⟨p, 1, none⟩)] (by kernel_rfl) ?_
    refine K.RW.q rfl (by kernel_rfl) (K.QR.ld1 (v := .slice sa n cs) rfl rfl (by kernel_rfl) ((hS.blk 0 rfl hg).cell rfl)) ?_
    refine K.RW.q rfl (by kernel_rfl) (K.QR.len (P := Try.prog) rfl rfl Try.underlying116) ?_
    by_cases h_2 : ((i : Int) / 8 : Int) ≥ (((n : Nat) : Int) : Int)
    ·  -- yes
      refine K.RW.q rfl (by kernel_rfl) (K.QR.nice (v := .bool (decide (((i : Int) / 8 : Int) ≥ (((n : Nat) : Int) : Int)))) (by kernel_rfl) (congrArg Value.bool (decide_eq_true h_2))) ?_
      refine K.RW.qs [.bool true, .bool true] (by kernel_rfl) ?_
      refine K.RW.nil ?_
      refine K.thn_normal ?_
      refine K.KW.ifT rfl ?_
      refine K.KW.seq ?_
      -- 4 :83
      refine K.KW.region ?_
      refine K.RW.qs [.int .i64 5] (by kernel_rfl) ?_
      refine K.RW.nil ?_
      refine K.thn_normal ?_
      refine K.KW.ret ?_
      refine K.blk_ret ?_
      refine K.thn_ret ?_
      replace hS : K.Sat w0 [[g, gk, gs, gw, gf, gz].flatten, fr] w := (hS.pick [0, 1, 2, 3, 4, 5, 6]).of
      refine ⟨.inr rfl, rfl, (.int .i64 5), K.res1 rfl rfl, [[g, gk, gs, gw, gf, gz].flatten], ?_, hS.pick [0, 1]⟩
      exact ⟨rfl, .inr ⟨rfl, by omega⟩⟩
    ·  -- no
      refine K.RW.q rfl (by kernel_rfl) (K.QR.nice (v := .bool (decide (((i : Int) / 8 : Int) ≥ (((n : Nat) : Int) : Int)))) (by kernel_rfl) (congrArg Value.bool (decide_eq_false h_2))) ?_
      refine K.RW.qs [.bool false, .bool false] (by kernel_rfl) ?_
      refine K.RW.nil ?_
      refine K.thn_normal ?_
      refine K.KW.ifF rfl ?_
      refine K.KW.skip ?_
      refine K.blk_normal ?_
      refine K.thn_normal ?_
      refine K.KW.seq ?_
      -- 5 :85
      refine K.KW.region ?_
      refine K.RW.qs [.int .i64 0] (by kernel_rfl) ?_
      refine K.RW.nil ?_
      refine K.thn_normal ?_
      refine K.KW.ret ?_
      replace hS : K.Sat w0 [[g, gk, gs, gw, gf, gz].flatten, fr] w := (hS.pick [0, 1, 2, 3, 4, 5, 6]).of
      refine ⟨.inr rfl, rfl, (.int .i64 0), K.res1 rfl rfl, [[g, gk, gs, gw, gf, gz].flatten], ?_, hS.pick [0, 1]⟩
      exact ⟨rfl, .inl ⟨rfl, by omega⟩⟩

set_option maxHeartbeats 1000000 in
set_option maxRecDepth 100000 in
theorem dvWord_nil (w0 : World) (i : Int) :
    K.GC Try.prog w0 99 #[.pointer none, .int .i64 i] [] (fun v post => v = .int .i64 1 ∧ post = []) := by
  refine K.GC.mk (n := 21) Try.func99 rfl rfl [.pointer none, .int .i64 i] rfl rfl ?_
  intro fr w hS
  replace hS : K.Sat w0 [fr] w := hS
  refine K.KW.seq ?_
  -- 0 :78
  refine K.KW.region ?_
  refine K.RW.qs [.int .i64 0] (by kernel_rfl) ?_
  refine K.RW.nil ?_
  refine K.thn_normal ?_
  refine K.KW.seq ?_
  refine K.KW.block ?_
  refine K.KW.seq ?_
  -- 1 :80
  refine K.KW.region ?_
  refine K.RW.qs [.pointer none, .bool true, .bool true] (by kernel_rfl) ?_
  refine K.RW.nil ?_
  refine K.thn_normal ?_
  refine K.KW.ifT rfl ?_
  refine K.KW.seq ?_
  -- 2 :81
  refine K.KW.region ?_
  refine K.RW.qs [.int .i64 1] (by kernel_rfl) ?_
  refine K.RW.nil ?_
  refine K.thn_normal ?_
  refine K.KW.ret ?_
  refine K.blk_ret ?_
  refine K.thn_ret ?_
  refine ⟨.inr rfl, rfl, (.int .i64 1), K.res1 rfl rfl, [], ?_, hS.pick [0]⟩
  exact ⟨rfl, rfl⟩

set_option maxHeartbeats 1000000 in
set_option maxRecDepth 100000 in
theorem dvLine_ok (w0 : World) (p n t : Nat) (D : DevM) (l : K.Cs) (x : DevAt l p n t D) (i : Int) (hi : isInt i) :
    K.GC Try.prog w0 84 #[.pointer (some ⟨p, 0, none⟩), .int .i64 i] [l] (fun v post => post = [l] ∧ ((v = .int .i64 0 ∧ 0 ≤ i ∧ i < n) ∨ (v = .int .i64 5 ∧ ¬(0 ≤ i ∧ i < n)))) := by
  refine K.GC.mk (n := 20) Try.func84 rfl rfl [.pointer (some ⟨p, 0, none⟩), .int .i64 i] rfl rfl ?_
  intro fr w hS
  replace hS : K.Sat w0 [l, fr] w := hS
  refine K.KW.seq ?_
  -- 0 :89
  refine K.KW.region ?_
  refine K.RW.qs [.int .i64 0] (by kernel_rfl) ?_
  refine K.RW.nil ?_
  refine K.thn_normal ?_
  refine K.KW.seq ?_
  refine K.KW.block ?_
  refine K.KW.seq ?_
  -- 1 :91
  refine K.KW.region ?_
  refine K.RW.qs [.pointer (some ⟨p, 0, none⟩), .bool false, .bool false] (by kernel_rfl) ?_
  refine K.RW.nil ?_
  refine K.thn_normal ?_
  refine K.KW.ifF rfl ?_
  refine K.KW.seq ?_
  -- 3 :93
  obtain ⟨g, gk, gs, gw, gf, gz, vs, ka, sa, wa, fa, ck, cs, cw, cf, rfl, hg, ok, os, ow, of, lv, oz, dk⟩ := x
  have dk2 := dk; obtain ⟨lk, ls, lw, lf, lB, n0, n1, t0, t1⟩ := dk2
  replace hS : K.Sat w0 [g, gk, gs, gw, gf, gz, fr] w := hS.of
  refine K.KW.region ?_
  refine K.RW.qs [.int .i64 i] (by kernel_rfl) ?_
  by_cases h_1 : (i : Int) < (0 : Int)
  ·  -- yes
    refine K.RW.q rfl rfl (K.QR.nice (v := .bool (decide ((i : Int) < (0 : Int)))) (by kernel_rfl) (congrArg Value.bool (decide_eq_true h_1))) ?_
    refine K.RW.qs [.bool true] (by kernel_rfl) ?_
    refine K.RW.skip rfl (by kernel_rfl) ?_
    refine K.RW.skip rfl (by kernel_rfl) ?_
    refine K.RW.skip rfl (by kernel_rfl) ?_
    refine K.RW.skip rfl (by kernel_rfl) ?_
    refine K.RW.skip rfl (by kernel_rfl) ?_
    refine K.RW.skip rfl (by kernel_rfl) ?_
    refine K.RW.skip rfl (by kernel_rfl) ?_
    refine K.RW.qs [.bool true, .bool true] (by kernel_rfl) ?_
    refine K.RW.nil ?_
    refine K.thn_normal ?_
    refine K.KW.ifT rfl ?_
    refine K.KW.seq ?_
    -- 4 :94
    refine K.KW.region ?_
    refine K.RW.qs [.int .i64 5] (by kernel_rfl) ?_
    refine K.RW.nil ?_
    refine K.thn_normal ?_
    refine K.KW.ret ?_
    refine K.blk_ret ?_
    refine K.thn_ret ?_
    replace hS : K.Sat w0 [[g, gk, gs, gw, gf, gz].flatten, fr] w := (hS.pick [0, 1, 2, 3, 4, 5, 6]).of
    refine ⟨.inr rfl, rfl, (.int .i64 5), K.res1 rfl rfl, [[g, gk, gs, gw, gf, gz].flatten], ?_, hS.pick [0, 1]⟩
    exact ⟨rfl, .inr ⟨rfl, by omega⟩⟩
  ·  -- no
    refine K.RW.q rfl rfl (K.QR.nice (v := .bool (decide ((i : Int) < (0 : Int)))) (by kernel_rfl) (congrArg Value.bool (decide_eq_false h_1))) ?_
    refine K.RW.qs [.bool false, .int .i64 i, .pointer (some ⟨p, 0, none⟩), .pointer (some ⟨p, 0, none⟩), .pointer (some ⟨p, 1, none⟩)] (by kernel_rfl) ?_
    refine K.RW.q rfl (by kernel_rfl) (K.QR.ld1 (v := .slice sa n cs) rfl rfl (by kernel_rfl) ((hS.blk 0 rfl hg).cell rfl)) ?_
    refine K.RW.q rfl (by kernel_rfl) (K.QR.len (P := Try.prog) rfl rfl Try.underlying116) ?_
    by_cases h_2 : (i : Int) ≥ (((n : Nat) : Int) : Int)
    ·  -- yes
      refine K.RW.q rfl (by kernel_rfl) (K.QR.nice (v := .bool (decide ((i : Int) ≥ (((n : Nat) : Int) : Int)))) (by kernel_rfl) (congrArg Value.bool (decide_eq_true h_2))) ?_
      refine K.RW.qs [.bool true, .bool true] (by kernel_rfl) ?_
      refine K.RW.nil ?_
      refine K.thn_normal ?_
      refine K.KW.ifT rfl ?_
      refine K.KW.seq ?_
      -- 4 :94
      refine K.KW.region ?_
      refine K.RW.qs [.int .i64 5] (by kernel_rfl) ?_
      refine K.RW.nil ?_
      refine K.thn_normal ?_
      refine K.KW.ret ?_
      refine K.blk_ret ?_
      refine K.thn_ret ?_
      replace hS : K.Sat w0 [[g, gk, gs, gw, gf, gz].flatten, fr] w := (hS.pick [0, 1, 2, 3, 4, 5, 6]).of
      refine ⟨.inr rfl, rfl, (.int .i64 5), K.res1 rfl rfl, [[g, gk, gs, gw, gf, gz].flatten], ?_, hS.pick [0, 1]⟩
      exact ⟨rfl, .inr ⟨rfl, by omega⟩⟩
    ·  -- no
      refine K.RW.q rfl (by kernel_rfl) (K.QR.nice (v := .bool (decide ((i : Int) ≥ (((n : Nat) : Int) : Int)))) (by kernel_rfl) (congrArg Value.bool (decide_eq_false h_2))) ?_
      refine K.RW.qs [.bool false, .bool false] (by kernel_rfl) ?_
      refine K.RW.nil ?_
      refine K.thn_normal ?_
      refine K.KW.ifF rfl ?_
      refine K.KW.skip ?_
      refine K.blk_normal ?_
      refine K.thn_normal ?_
      refine K.KW.seq ?_
      -- 5 :96
      refine K.KW.region ?_
      refine K.RW.qs [.int .i64 0] (by kernel_rfl) ?_
      refine K.RW.nil ?_
      refine K.thn_normal ?_
      refine K.KW.ret ?_
      replace hS : K.Sat w0 [[g, gk, gs, gw, gf, gz].flatten, fr] w := (hS.pick [0, 1, 2, 3, 4, 5, 6]).of
      refine ⟨.inr rfl, rfl, (.int .i64 0), K.res1 rfl rfl, [[g, gk, gs, gw, gf, gz].flatten], ?_, hS.pick [0, 1]⟩
      exact ⟨rfl, .inl ⟨rfl, by omega⟩⟩

set_option maxHeartbeats 1000000 in
set_option maxRecDepth 100000 in
theorem dvLine_nil (w0 : World) (i : Int) :
    K.GC Try.prog w0 84 #[.pointer none, .int .i64 i] [] (fun v post => v = .int .i64 1 ∧ post = []) := by
  refine K.GC.mk (n := 20) Try.func84 rfl rfl [.pointer none, .int .i64 i] rfl rfl ?_
  intro fr w hS
  replace hS : K.Sat w0 [fr] w := hS
  refine K.KW.seq ?_
  -- 0 :89
  refine K.KW.region ?_
  refine K.RW.qs [.int .i64 0] (by kernel_rfl) ?_
  refine K.RW.nil ?_
  refine K.thn_normal ?_
  refine K.KW.seq ?_
  refine K.KW.block ?_
  refine K.KW.seq ?_
  -- 1 :91
  refine K.KW.region ?_
  refine K.RW.qs [.pointer none, .bool true, .bool true] (by kernel_rfl) ?_
  refine K.RW.nil ?_
  refine K.thn_normal ?_
  refine K.KW.ifT rfl ?_
  refine K.KW.seq ?_
  -- 2 :92
  refine K.KW.region ?_
  refine K.RW.qs [.int .i64 1] (by kernel_rfl) ?_
  refine K.RW.nil ?_
  refine K.thn_normal ?_
  refine K.KW.ret ?_
  refine K.blk_ret ?_
  refine K.thn_ret ?_
  refine ⟨.inr rfl, rfl, (.int .i64 1), K.res1 rfl rfl, [], ?_, hS.pick [0]⟩
  exact ⟨rfl, rfl⟩

set_option maxHeartbeats 1000000 in
set_option maxRecDepth 100000 in
theorem dvThread_ok (w0 : World) (p n t : Nat) (D : DevM) (l : K.Cs) (x : DevAt l p n t D) (i : Int) (hi : isInt i) :
    K.GC Try.prog w0 82 #[.pointer (some ⟨p, 0, none⟩), .int .i64 i] [l] (fun v post => post = [l] ∧ ((v = .int .i64 0 ∧ 0 ≤ i ∧ i < t) ∨ (v = .int .i64 1 ∧ ¬(0 ≤ i ∧ i < t)))) := by
  refine K.GC.mk (n := 20) Try.func82 rfl rfl [.pointer (some ⟨p, 0, none⟩), .int .i64 i] rfl rfl ?_
  intro fr w hS
  replace hS : K.Sat w0 [l, fr] w := hS
  refine K.KW.seq ?_
  -- 0 :100
  refine K.KW.region ?_
  refine K.RW.qs [.int .i64 0] (by kernel_rfl) ?_
  refine K.RW.nil ?_
  refine K.thn_normal ?_
  refine K.KW.seq ?_
  refine K.KW.seq ?_
  -- 1 :101
  obtain ⟨g, gk, gs, gw, gf, gz, vs, ka, sa, wa, fa, ck, cs, cw, cf, rfl, hg, ok, os, ow, of, lv, oz, dk⟩ := x
  have dk2 := dk; obtain ⟨lk, ls, lw, lf, lB, n0, n1, t0, t1⟩ := dk2
  replace hS : K.Sat w0 [g, gk, gs, gw, gf, gz, fr] w := hS.of
  refine K.KW.region ?_
  refine K.RW.qs [.pointer (some ⟨p, 0, none⟩), .bool false, .bool false, .int .i64 i] (by kernel_rfl) ?_
  by_cases h_1 : (i : Int) < (0 : Int)
  ·  -- yes
    refine K.RW.q rfl (by kernel_rfl) (K.QR.nice (v := .bool (decide ((i : Int) < (0 : Int)))) (by kernel_rfl) (congrArg Value.bool (decide_eq_true h_1))) ?_
    refine K.RW.qs [.bool true, .bool true] (by kernel_rfl) ?_
    refine K.RW.skip rfl (by kernel_rfl) ?_
    refine K.RW.skip rfl (by kernel_rfl) ?_
    refine K.RW.skip rfl (by kernel_rfl) ?_
    refine K.RW.skip rfl (by kernel_rfl) ?_
    refine K.RW.skip rfl (by kernel_rfl) ?_
    refine K.RW.skip rfl (by kernel_rfl) ?_
    refine K.RW.skip rfl (by kernel_rfl) ?_
    refine K.RW.qs [.bool true] (by kernel_rfl) ?_
    refine K.RW.nil ?_
    refine K.thn_normal ?_
    refine K.KW.ifT rfl ?_
    refine K.KW.seq ?_
    -- 2 :102
    refine K.KW.region ?_
    refine K.RW.qs [.int .i64 1] (by kernel_rfl) ?_
    refine K.RW.nil ?_
    refine K.thn_normal ?_
    refine K.KW.ret ?_
    refine K.thn_ret ?_
    replace hS : K.Sat w0 [[g, gk, gs, gw, gf, gz].flatten, fr] w := (hS.pick [0, 1, 2, 3, 4, 5, 6]).of
    refine ⟨.inr rfl, rfl, (.int .i64 1), K.res1 rfl rfl, [[g, gk, gs, gw, gf, gz].flatten], ?_, hS.pick [0, 1]⟩
    exact ⟨rfl, .inr ⟨rfl, by omega⟩⟩
  ·  -- no
    refine K.RW.q rfl (by kernel_rfl) (K.QR.nice (v := .bool (decide ((i : Int) < (0 : Int)))) (by kernel_rfl) (congrArg Value.bool (decide_eq_false h_1))) ?_
    refine K.RW.qs [.bool false, .bool false, .int .i64 i, .pointer (some ⟨p, 0, none⟩), .pointer (some ⟨p, 0, none⟩), .pointer (some ⟨p, 3, none⟩)] (by kernel_rfl) ?_
    refine K.RW.q rfl (by kernel_rfl) (K.QR.ld1 (v := .slice fa t cf) rfl rfl (by kernel_rfl) ((hS.blk 0 rfl hg).cell rfl)) ?_
    refine K.RW.q rfl (by kernel_rfl) (K.QR.len (P := Try.prog) rfl rfl Try.underlying117) ?_
    by_cases h_2 : (i : Int) ≥ (((t : Nat) : Int) : Int)
    ·  -- yes
      refine K.RW.q rfl (by kernel_rfl) (K.QR.nice (v := .bool (decide ((i : Int) ≥ (((t : Nat) : Int) : Int)))) (by kernel_rfl) (congrArg Value.bool (decide_eq_true h_2))) ?_
      refine K.RW.qs [.bool true] (by kernel_rfl) ?_
      refine K.RW.nil ?_
      refine K.thn_normal ?_
      refine K.KW.ifT rfl ?_
      refine K.KW.seq ?_
      -- 2 :102
      refine K.KW.region ?_
      refine K.RW.qs [.int .i64 1] (by kernel_rfl) ?_
      refine K.RW.nil ?_
      refine K.thn_normal ?_
      refine K.KW.ret ?_
      refine K.thn_ret ?_
      replace hS : K.Sat w0 [[g, gk, gs, gw, gf, gz].flatten, fr] w := (hS.pick [0, 1, 2, 3, 4, 5, 6]).of
      refine ⟨.inr rfl, rfl, (.int .i64 1), K.res1 rfl rfl, [[g, gk, gs, gw, gf, gz].flatten], ?_, hS.pick [0, 1]⟩
      exact ⟨rfl, .inr ⟨rfl, by omega⟩⟩
    ·  -- no
      refine K.RW.q rfl (by kernel_rfl) (K.QR.nice (v := .bool (decide ((i : Int) ≥ (((t : Nat) : Int) : Int)))) (by kernel_rfl) (congrArg Value.bool (decide_eq_false h_2))) ?_
      refine K.RW.qs [.bool false] (by kernel_rfl) ?_
      refine K.RW.nil ?_
      refine K.thn_normal ?_
      refine K.KW.ifF rfl ?_
      refine K.KW.skip ?_
      refine K.thn_normal ?_
      refine K.KW.seq ?_
      -- 3 :104
      refine K.KW.region ?_
      refine K.RW.qs [.int .i64 0] (by kernel_rfl) ?_
      refine K.RW.nil ?_
      refine K.thn_normal ?_
      refine K.KW.ret ?_
      replace hS : K.Sat w0 [[g, gk, gs, gw, gf, gz].flatten, fr] w := (hS.pick [0, 1, 2, 3, 4, 5, 6]).of
      refine ⟨.inr rfl, rfl, (.int .i64 0), K.res1 rfl rfl, [[g, gk, gs, gw, gf, gz].flatten], ?_, hS.pick [0, 1]⟩
      exact ⟨rfl, .inl ⟨rfl, by omega⟩⟩

set_option maxHeartbeats 1000000 in
set_option maxRecDepth 100000 in
theorem dvThread_nil (w0 : World) (i : Int) :
    K.GC Try.prog w0 82 #[.pointer none, .int .i64 i] [] (fun v post => v = .int .i64 1 ∧ post = []) := by
  refine K.GC.mk (n := 20) Try.func82 rfl rfl [.pointer none, .int .i64 i] rfl rfl ?_
  intro fr w hS
  replace hS : K.Sat w0 [fr] w := hS
  refine K.KW.seq ?_
  -- 0 :100
  refine K.KW.region ?_
  refine K.RW.qs [.int .i64 0] (by kernel_rfl) ?_
  refine K.RW.nil ?_
  refine K.thn_normal ?_
  refine K.KW.seq ?_
  refine K.KW.seq ?_
  -- 1 :101
  refine K.KW.region ?_
  refine K.RW.qs [.pointer none, .bool true, .bool true] (by kernel_rfl) ?_
  refine K.RW.skip rfl (by kernel_rfl) ?_
  refine K.RW.skip rfl (by kernel_rfl) ?_
  refine K.RW.qs [.bool true, .bool true] (by kernel_rfl) ?_
  refine K.RW.skip rfl (by kernel_rfl) ?_
  refine K.RW.skip rfl (by kernel_rfl) ?_
  refine K.RW.skip rfl (by kernel_rfl) ?_
  refine K.RW.skip rfl (by kernel_rfl) ?_
  refine K.RW.skip rfl (by kernel_rfl) ?_
  refine K.RW.skip rfl (by kernel_rfl) ?_
  refine K.RW.skip rfl (by kernel_rfl) ?_
  refine K.RW.qs [.bool true] (by kernel_rfl) ?_
  refine K.RW.nil ?_
  refine K.thn_normal ?_
  refine K.KW.ifT rfl ?_
  refine K.KW.seq ?_
  -- 2 :102
  refine K.KW.region ?_
  refine K.RW.qs [.int .i64 1] (by kernel_rfl) ?_
  refine K.RW.nil ?_
  refine K.thn_normal ?_
  refine K.KW.ret ?_
  refine K.thn_ret ?_
  refine ⟨.inr rfl, rfl, (.int .i64 1), K.res1 rfl rfl, [], ?_, hS.pick [0]⟩
  exact ⟨rfl, rfl⟩

end Go.Proofs.Ytgeihjiichdpbaa
