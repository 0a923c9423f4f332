/- The document's machine of layer 11. -/
import Derived.Test.YtkmndplicmaahaaGreatFre3
import Derived.Test.YtkmndplicmaahaaGreatKn
namespace Go.Proofs.YtkmndplicmaahaaGreat
open Go.RowKit
set_option linter.unusedVariables false
attribute [local irreducible] K.KW K.RW K.DW K.OW K.QR K.KC
theorem tmod32 (x : Int) : Int.tmod x 4294967296 = if 0 ≤ x then x % 4294967296 else -((-x) % 4294967296) := by
 split
 ·rename_i h; exact Int.tmod_eq_emod_of_nonneg h
 ·rename_i h
  obtain ⟨y, rfl⟩ : ∃ y, x = -y := ⟨-x, by omega⟩
  rw [Int.neg_tmod, Int.tmod_eq_emod_of_nonneg (by omega), Int.neg_neg]
theorem wrapU32 (x : Int) : IntKind.u32.wrap x = x % 4294967296 := by simp [IntKind.wrap, IntKind.bits, IntKind.signed]
theorem top_low (w : Int) : w % 4294967296 = topI (toI w) 0 := by unfold topI toI; omega
set_option maxHeartbeats 1000000 in
set_option maxRecDepth 100000 in
theorem rcut_ok (w0 : World) (x : Int) (hx : isInt x) :
  K.GC Tryz.prog w0 111 #[.int .i64 x, .int .i64 4294967296] [] (fun v post => v = .int .i64 ((x + 1) % 4294967296) ∧ post = []) := by
 have ht := tmod32 x
 have hb : -4294967296 < Int.tmod x 4294967296 ∧ Int.tmod x 4294967296 < 4294967296 := by rw [ht]; split <;> omega
 refine K.GC.mk (n := 18) Tryz.func111 rfl rfl [.int .i64 x, .int .i64 4294967296] rfl rfl ?_
 intro fr w hS
 replace hS : K.Sat w0 [fr] w := hS
 refine K.s (K.g (K.q [.int .i64 0] (K.z (K.t (K.s (K.g (K.q [.int .i64 x, .int .i64 4294967296, .int .i64 (Int.tmod x 4294967296), .int .i64 (Int.tmod x 4294967296)] (K.z (K.t (K.s (K.s (K.g (K.q [.int .i64 (Int.tmod x 4294967296)] ?_)))))))))))))
 by_cases h_1 : ((Int.tmod x 4294967296) : Int) < (0 : Int)
 ·
  refine K.y (((Int.tmod x 4294967296) : Int) < (0 : Int)) h_1 ?_
  refine K.z (K.t (K.h (K.g (K.q [.int .i64 (Int.tmod x 4294967296), .int .i64 4294967296] ?_))))
  refine K.a (K.QR.n64 (((Int.tmod x 4294967296) : Int) + (4294967296 : Int)) (((Int.tmod x 4294967296) : Int) + (4294967296 : Int)) (by kernel_rfl) (by omega)) ?_
  refine K.q [.int .i64 (((Int.tmod x 4294967296) : Int) + (4294967296 : Int))] (K.z (K.t (K.s (K.g (K.q [.int .i64 (((Int.tmod x 4294967296) : Int) + (4294967296 : Int))] ?_)))))
  refine K.a (K.QR.n64 ((((Int.tmod x 4294967296) : Int) + (4294967296 : Int) : Int) + (1 : Int)) ((((Int.tmod x 4294967296) : Int) + (4294967296 : Int) : Int) + (1 : Int)) (by kernel_rfl) (by omega)) ?_
  refine K.q [.int .i64 4294967296] ?_
  refine K.a (K.QR.remi64 ((((Int.tmod x 4294967296) : Int) + (4294967296 : Int) : Int) + (1 : Int) : Int) 4294967296 (((((Int.tmod x 4294967296) : Int) + (4294967296 : Int) : Int) + (1 : Int) : Int) % 4294967296) (by kernel_rfl) (by omega) (by omega)) ?_
  refine K.q [.int .i64 (((((Int.tmod x 4294967296) : Int) + (4294967296 : Int) : Int) + (1 : Int) : Int) % 4294967296)] (K.z (K.t (K.r ?_)))
  refine ⟨.inr rfl, rfl, (.int .i64 (((((Int.tmod x 4294967296) : Int) + (4294967296 : Int) : Int) + (1 : Int) : Int) % 4294967296)), K.res1 rfl rfl, [], ?_, hS.pick [0]⟩
  exact ⟨congrArg (Value.int .i64) (by split at ht <;> omega), rfl⟩
 ·
  refine K.x (((Int.tmod x 4294967296) : Int) < (0 : Int)) h_1 ?_
  refine K.z (K.t (K.f (K.k (K.t (K.s (K.g (K.q [.int .i64 (Int.tmod x 4294967296)] ?_)))))))
  refine K.a (K.QR.n64 (((Int.tmod x 4294967296) : Int) + (1 : Int)) (((Int.tmod x 4294967296) : Int) + (1 : Int)) (by kernel_rfl) (by omega)) ?_
  refine K.q [.int .i64 4294967296] ?_
  refine K.a (K.QR.remi64 (((Int.tmod x 4294967296) : Int) + (1 : Int) : Int) 4294967296 ((((Int.tmod x 4294967296) : Int) + (1 : Int) : Int) % 4294967296) (by kernel_rfl) (by omega) (by omega)) ?_
  refine K.q [.int .i64 ((((Int.tmod x 4294967296) : Int) + (1 : Int) : Int) % 4294967296)] (K.z (K.t (K.r ?_)))
  refine ⟨.inr rfl, rfl, (.int .i64 ((((Int.tmod x 4294967296) : Int) + (1 : Int) : Int) % 4294967296)), K.res1 rfl rfl, [], ?_, hS.pick [0]⟩
  exact ⟨congrArg (Value.int .i64) (by split at ht <;> omega), rfl⟩
set_option maxHeartbeats 1000000 in
set_option maxRecDepth 100000 in
theorem rtop_ok (w0 : World) (x v : Int) (hx : isInt x) (hv : 0 ≤ v ∧ v < 4294967296) :
  K.GC Tryz.prog w0 131 #[.int .i64 x, .int .u32 v] [] (fun v_ post => v_ = .int .u64 (topI x v) ∧ post = []) := by
 refine K.GC.mk (n := 12) Tryz.func131 rfl rfl [.int .i64 x, .int .u32 v] rfl rfl ?_
 intro fr w hS
 replace hS : K.Sat w0 [fr] w := hS
 refine K.s (K.g (K.q [.int .u64 0] (K.z (K.t (K.s (K.g (K.q [.int .i64 x] ?_)))))))
 refine K.l (K.OW.gcall hS [] [0] [.int .i64 x, .int .i64 4294967296] (rcut_ok _ x (by first | omega | (unfold toI; omega))) ?_)
 clear hS; rintro _ _ w ⟨rfl, rfl⟩ hS
 replace hS : K.Sat w0 [fr] w := hS
 refine K.a (K.QR.nice (v := .int .u64 (IntKind.u64.wrap ((x + 1) % 4294967296))) (by kernel_rfl) (congrArg (Value.int .u64) (IntWalk.u64_in _ (by omega)))) ?_
 refine K.q [.int .u32 v] ?_
 refine K.a (K.QR.nice (v := .int .u64 (IntKind.u64.wrap v)) (by kernel_rfl) (congrArg (Value.int .u64) (IntWalk.u64_in _ (by omega)))) ?_
 refine K.a (K.QR.nu64 ((4294967296 : Int) * (v : Int)) ((4294967296 : Int) * (v : Int)) (by kernel_rfl) (by omega)) ?_
 refine K.a (K.QR.nu64 ((((x + 1) % 4294967296) : Int) + ((4294967296 : Int) * (v : Int) : Int)) ((((x + 1) % 4294967296) : Int) + ((4294967296 : Int) * (v : Int) : Int)) (by kernel_rfl) (by omega)) ?_
 refine K.q [.int .u64 ((((x + 1) % 4294967296) : Int) + ((4294967296 : Int) * (v : Int) : Int))] (K.z (K.t (K.r ?_)))
 refine ⟨.inr rfl, rfl, (.int .u64 ((((x + 1) % 4294967296) : Int) + ((4294967296 : Int) * (v : Int) : Int))), K.res1 rfl rfl, [], ?_, hS.pick [0]⟩
 exact ⟨congrArg (Value.int .u64) (by unfold topI; omega), rfl⟩
set_option maxHeartbeats 1000000 in
set_option maxRecDepth 100000 in
theorem rver_ok (w0 : World) (x : Int) (hx : isW x) :
  K.GC Tryz.prog w0 132 #[.int .u64 x] [] (fun v post => v = .int .u32 (verI x) ∧ post = []) := by
 have hx2 := hx
 unfold isW at hx2
 refine K.GC.mk (n := 6) Tryz.func132 rfl rfl [.int .u64 x] rfl rfl ?_
 intro fr w hS
 replace hS : K.Sat w0 [fr] w := hS
 refine K.s (K.g (K.q [.int .u32 0] (K.z (K.t (K.s (K.g (K.q [.int .u64 x] ?_)))))))
 refine K.a (K.QR.quou64 (x : Int) 4294967296 ((x : Int) / 4294967296) (by kernel_rfl) (by omega) (by omega)) ?_
 refine K.q [.int .u32 (IntKind.u32.wrap ((x : Int) / 4294967296)), .int .u32 (IntKind.u32.wrap ((x : Int) / 4294967296))] (K.z (K.t (K.r ?_)))
 refine ⟨.inr rfl, rfl, (.int .u32 (IntKind.u32.wrap ((x : Int) / 4294967296))), K.res1 rfl rfl, [], ?_, hS.pick [0]⟩
 exact ⟨congrArg (Value.int .u32) (by unfold verI; simp [IntKind.wrap, IntKind.bits, IntKind.signed]), rfl⟩
set_option maxHeartbeats 1000000 in
set_option maxRecDepth 100000 in
theorem rafter_ok (w0 : World) (c : Cfg) (hc : cfgOk c) (s : Int) :
  K.GC Tryz.prog w0 130 #[.agg #[.int .i64 c.th, .int .i64 c.sl, .int .i64 c.lo, .int .i64 c.bu], .int .i64 s] [] (fun v post => v = .int .i64 (aftS c s) ∧ post = []) := by
 refine K.GC.mk (n := 9) Tryz.func130 rfl rfl [.agg #[.int .i64 c.th, .int .i64 c.sl, .int .i64 c.lo, .int .i64 c.bu], .int .i64 s] rfl rfl ?_
 intro fr w hS
 replace hS : K.Sat w0 [fr] w := hS
 refine K.s (K.g ?_)
 refine K.l (K.OW.gnew 23 [.int .i64 c.th, .int .i64 c.sl, .int .i64 c.lo, .int .i64 c.bu] hS ?_)
 clear hS; intro w r_1 g_2 hg_3 hS
 refine K.q [.int .i64 0] (K.z (K.t (K.s (K.g ?_))))
 refine K.a (K.QR.ldN [.int .i64 c.th, .int .i64 c.sl, .int .i64 c.lo, .int .i64 c.bu] rfl rfl (by kernel_rfl) (by kernel_rfl) (K.cells (K.cl ((hS.blk 0 rfl hg_3).cell rfl) (K.cl ((hS.blk 0 rfl hg_3).cell rfl) (K.cl ((hS.blk 0 rfl hg_3).cell rfl) (K.cl ((hS.blk 0 rfl hg_3).cell rfl) K.cl0)))))) ?_
 refine K.q [.int .i64 s] ?_
 refine K.a (K.QR.bd [(0, .int .i64 17), (1, .int .i64 s)] [.int .i64 17, .int .i64 s, .int .i64 0] rfl rfl (by kernel_rfl)) ?_
 refine K.l (K.OW.gcall hS [] [0, 1] [.agg #[.int .i64 c.th, .int .i64 c.sl, .int .i64 c.lo, .int .i64 c.bu], .agg #[.int .i64 17, .int .i64 s, .int .i64 0]] (at_ok _ c (⟨17, s, 0⟩ : Nm) (by assumption)) ?_)
 clear hS; rintro _ _ w ⟨rfl, rfl⟩ hS
 replace hS : K.Sat w0 [g_2, fr] w := hS
 refine K.q [.int .i64 (atT (lasting c) (passing c) (⟨17, s, 0⟩ : Nm))] (K.z (K.t (K.r ?_)))
 refine ⟨.inr rfl, rfl, (.int .i64 (atT (lasting c) (passing c) (⟨17, s, 0⟩ : Nm))), K.res1 rfl rfl, [], ?_, hS.pick [1]⟩
 exact ⟨congrArg (Value.int .i64) (at_aft hc s), rfl⟩
set_option maxHeartbeats 1000000 in
set_option maxRecDepth 100000 in
theorem rstamp_ok (w0 : World) (x : Int) (hx : isW x) :
  K.GC Tryz.prog w0 106 #[.int .u64 x] [] (fun v post => v = .int .i64 (stampI x) ∧ post = []) := by
 have hx2 := hx
 unfold isW at hx2
 refine K.GC.mk (n := 7) Tryz.func106 rfl rfl [.int .u64 x] rfl rfl ?_
 intro fr w hS
 replace hS : K.Sat w0 [fr] w := hS
 refine K.s (K.g (K.q [.int .i64 0] (K.z (K.t (K.s (K.g (K.q [.int .u64 x] ?_)))))))
 refine K.a (K.QR.quou64 (x : Int) 4294967296 ((x : Int) / 4294967296) (by kernel_rfl) (by omega) (by omega)) ?_
 refine K.a (K.QR.nice (v := .int .i64 (IntKind.i64.wrap ((x : Int) / 4294967296))) (by kernel_rfl) (congrArg (Value.int .i64) (IntWalk.i64_in _ (by omega)))) ?_
 refine K.a (K.QR.n64 (((x : Int) / 4294967296 : Int) + ((-1) : Int)) (((x : Int) / 4294967296 : Int) + ((-1) : Int)) (by kernel_rfl) (by omega)) ?_
 refine K.q [.int .i64 (((x : Int) / 4294967296 : Int) + ((-1) : Int))] (K.z (K.t (K.r ?_)))
 refine ⟨.inr rfl, rfl, (.int .i64 (((x : Int) / 4294967296 : Int) + ((-1) : Int))), K.res1 rfl rfl, [], ?_, hS.pick [0]⟩
 exact ⟨congrArg (Value.int .i64) (by unfold stampI; omega), rfl⟩
set_option maxHeartbeats 1000000 in
set_option maxRecDepth 100000 in
theorem rentry_ok (w0 : World) (x y : Int) (hx : isInt x) (hy : isInt y) :
  K.GC Tryz.prog w0 64 #[.int .i64 x, .int .i64 y] [] (fun v_ post => v_ = .int .u64 (entryI x y) ∧ post = []) := by
 refine K.GC.mk (n := 13) Tryz.func64 rfl rfl [.int .i64 x, .int .i64 y] rfl rfl ?_
 intro fr w hS
 replace hS : K.Sat w0 [fr] w := hS
 refine K.s (K.g (K.q [.int .u64 0] (K.z (K.t (K.s (K.g (K.q [.int .i64 x] ?_)))))))
 refine K.l (K.OW.gcall hS [] [0] [.int .i64 x, .int .i64 4294967296] (rcut_ok _ x (by first | omega | (unfold toI; omega))) ?_)
 clear hS; rintro _ _ w ⟨rfl, rfl⟩ hS
 replace hS : K.Sat w0 [fr] w := hS
 refine K.a (K.QR.nice (v := .int .u64 (IntKind.u64.wrap ((x + 1) % 4294967296))) (by kernel_rfl) (congrArg (Value.int .u64) (IntWalk.u64_in _ (by omega)))) ?_
 refine K.q [.int .i64 y] ?_
 refine K.l (K.OW.gcall hS [] [0] [.int .i64 y, .int .i64 4294967296] (rcut_ok _ y (by first | omega | (unfold toI; omega))) ?_)
 clear hS; rintro _ _ w ⟨rfl, rfl⟩ hS
 replace hS : K.Sat w0 [fr] w := hS
 refine K.a (K.QR.nice (v := .int .u64 (IntKind.u64.wrap ((y + 1) % 4294967296))) (by kernel_rfl) (congrArg (Value.int .u64) (IntWalk.u64_in _ (by omega)))) ?_
 refine K.a (K.QR.nu64 ((4294967296 : Int) * (((y + 1) % 4294967296) : Int)) ((4294967296 : Int) * (((y + 1) % 4294967296) : Int)) (by kernel_rfl) (by omega)) ?_
 refine K.a (K.QR.nu64 ((((x + 1) % 4294967296) : Int) + ((4294967296 : Int) * (((y + 1) % 4294967296) : Int) : Int)) ((((x + 1) % 4294967296) : Int) + ((4294967296 : Int) * (((y + 1) % 4294967296) : Int) : Int)) (by kernel_rfl) (by omega)) ?_
 refine K.q [.int .u64 ((((x + 1) % 4294967296) : Int) + ((4294967296 : Int) * (((y + 1) % 4294967296) : Int) : Int))] (K.z (K.t (K.r ?_)))
 refine ⟨.inr rfl, rfl, (.int .u64 ((((x + 1) % 4294967296) : Int) + ((4294967296 : Int) * (((y + 1) % 4294967296) : Int) : Int))), K.res1 rfl rfl, [], ?_, hS.pick [0]⟩
 exact ⟨congrArg (Value.int .u64) (by unfold entryI; omega), rfl⟩
structure PuD where
 t : Int
 line : Int
 top : Int
 slot : Int
structure DM where
 t : Int
 kind : Int
 line : Int
 n : Int
 slot : Int
 place : Int
 now : Int
 holds : Int
 count : Int
 pc : Cfg
 push : PuD
abbrev dmPt (r : Nat) (c : Cfg) (D : DM) : K.Cs := [K.pt r 70 [.int .i64 c.th, .int .i64 c.sl, .int .i64 c.lo, .int .i64 c.bu, .int .i64 D.t, .int .i64 D.kind, .int .i64 D.line, .int .i64 D.n, .int .i64 D.slot, .int .i64 D.place, .int .u64 D.now, .int .i64 D.holds, .int .i64 D.count,
 .int .i64 D.pc.th, .int .i64 D.pc.sl, .int .i64 D.pc.lo, .int .i64 D.pc.bu, .int .i64 D.push.t, .int .i64 D.push.line, .int .u64 D.push.top, .int .i64 D.push.slot]]
def dOn (c : Cfg) (D : DM) : DM := ⟨D.t, D.kind, if D.n + 1 = c.lo then 0 else D.line, D.n + 1, D.slot, D.place, D.now, D.holds, D.count, D.pc, D.push⟩
def dLine (D : DM) (l : Int) : DM := ⟨D.t, D.kind, l, D.n, D.slot, D.place, D.now, D.holds, D.count, D.pc, D.push⟩
def dLast (c : Cfg) (n nt : Nat) (D : DM) (M : MemM) : DM × MemM :=
 if D.line = 3 then (dLine D 4, (M.accF n nt D.t (logS c D.t D.n)).1)
 else (⟨D.t, D.kind, 0, D.n, D.slot, D.n, D.now, D.holds, D.count, D.pc, D.push⟩, (M.accE nt D.t).1)
def dLd (c : Cfg) (n : Nat) (D : DM) (M : MemM) : MemM × AccM := M.accL n D.t (logS c D.t D.n)
def dRes (c : Cfg) (n : Nat) (D : DM) (M : MemM) : DM × MemM :=
 if D.line = 1 then (if (dLd c n D M).2.old = 0 then (dLine D 2, (dLd c n D M).1) else (dOn c D, (dLd c n D M).1))
 else (dLine D 3, (M.accS n D.t (logS c D.t D.n) (entryI D.slot (-1))).1)
def dPush (c : Cfg) (n : Nat) (P : PuD) (M : MemM) : PuD × MemM :=
 if P.line = 1 then (⟨P.t, 2, (M.accL n P.t (-2)).2.old, P.slot⟩, (M.accL n P.t (-2)).1)
 else if P.line = 2 then (⟨P.t, 3, P.top, P.slot⟩, (M.accS n P.t (aftS c P.slot) (P.top % 4294967296)).1)
 else if P.line = 3 then (if (M.accW n P.t (-2) P.top (newerI P.slot P.top)).2.done = true then (⟨P.t, 0, P.top, P.slot⟩, (M.accW n P.t (-2) P.top (newerI P.slot P.top)).1) else (⟨P.t, 1, P.top, P.slot⟩, (M.accW n P.t (-2) P.top (newerI P.slot P.top)).1))
 else (P, M)
def dPut (D : DM) (P : PuD) : DM := ⟨D.t, D.kind, D.line, D.n, D.slot, D.place, D.now, D.holds, D.count, D.pc, P⟩
def dRec2 (c : Cfg) (n : Nat) (D : DM) (M : MemM) : DM × MemM :=
 if recOld D.now (dLd c n D M).2.old then (⟨D.t, D.kind, 3, D.n, toI (dLd c n D M).2.old, D.place, D.now, D.holds, D.count, D.pc, D.push⟩, (dLd c n D M).1)
 else (dOn c D, (dLd c n D M).1)
def dRec (c : Cfg) (n : Nat) (D : DM) (M : MemM) : DM × MemM :=
 if D.line = 1 then (⟨D.t, D.kind, 2, D.n, D.slot, D.place, (M.accL n D.t (-1)).2.old, D.holds, D.count, D.pc, D.push⟩, (M.accL n D.t (-1)).1)
 else if D.line = 2 then dRec2 c n D M
 else if D.line = 3 then (⟨D.t, D.kind, 4, D.n, D.slot, D.place, D.now, D.slot, D.count, c, ⟨D.t, 1, 0, D.slot⟩⟩, (M.accS n D.t (logS c D.t D.n) 0).1)
 else if (dPush c n D.push M).1.line = 0 then (dOn c ⟨D.t, D.kind, 2, D.n, D.slot, D.place, D.now, -1, D.count + 1, D.pc, (dPush c n D.push M).1⟩, (dPush c n D.push M).2)
 else (dPut D (dPush c n D.push M).1, (dPush c n D.push M).2)
def dStep (c : Cfg) (n nt : Nat) (D : DM) (M : MemM) : DM × MemM :=
 if D.line = 0 then (D, M)
 else if D.kind = 3 then dRec c n D M
 else if D.kind = 1 then (dLine D 0, (M.accS n D.t (logS c D.t D.n) 0).1)
 else if D.line ≥ 3 then dLast c n nt D M
 else if D.kind = 0 then dRes c n D M
 else if D.line = 1 then (⟨D.t, D.kind, 2, D.n, D.slot, D.place, (M.accL n D.t (-1)).2.old, D.holds, D.count, D.pc, D.push⟩, (M.accL n D.t (-1)).1)
 else (dLine D 3, (M.accS n D.t (logS c D.t D.n) (entryI D.slot D.now)).1)
structure DM.good (c : Cfg) (D : DM) : Prop where
 t : isInt D.t
 n : isInt D.n
 slot : isInt D.slot
 now : isW D.now
 cnt : 0 ≤ D.count ∧ D.count ≤ 64
 pt : isInt D.push.t
 ps : isInt D.push.slot
 pw : isW D.push.top
 nb : D.kind = 0 ∨ D.kind = 3 → 0 ≤ D.n ∧ D.n ≤ 64
 pc : D.kind = 3 ∧ ¬ D.line = 1 ∧ ¬ D.line = 2 ∧ ¬ D.line = 3 ∧ ¬ D.line = 0 → D.pc = c
theorem toI_ge2 (w : Int) : -1 ≤ toI w ∧ toI w < 4294967295 := by unfold toI; omega
set_option maxHeartbeats 1000000 in
set_option maxRecDepth 100000 in
theorem dLast_ok (w0 : World) (r pm q n t : Nat) (c : Cfg) (hc : cfgOk c) (D : DM) (M : MemM) (gp l : K.Cs) (hgp : gp = dmPt r c D) (x : RMemAt l pm q n t M) (hM : M.good) (hD : D.good c) :
  K.GC Tryz.prog w0 62 #[.pointer (some ⟨r, 0, none⟩), .pointer (some ⟨pm, 0, none⟩)] [gp, l] (fun v post => ∃ gp' l', v = .tuple #[] ∧ post = [gp', l'] ∧ gp' = dmPt r c (dLast c n t D M).1 ∧ RMemAt l' pm q n t (dLast c n t D M).2) := by
 obtain ⟨hDt, hDn, hDs, hDw, hDc, hDpt, hDps, hDpw, hDnb, hDpc⟩ := hD
 have hcc := hc
 unfold cfgOk at hcc
 have hcv := cv64_int D.now
 have hr1 := toI_ge2
 refine K.GC.mk (n := 47) Tryz.func62 rfl rfl [.pointer (some ⟨r, 0, none⟩), .pointer (some ⟨pm, 0, none⟩)] rfl rfl ?_
 intro fr w hS
 replace hS : K.Sat w0 [gp, l, fr] w := hS
 refine K.s (K.s (K.g (K.q [.pointer (some ⟨r, 0, none⟩), .pointer (some ⟨r, 0, none⟩), .pointer (some ⟨r, 6, none⟩)] ?_)))
 refine K.d (.int .i64 D.line) ((hS.blk 0 rfl hgp).cell rfl) ?_
 by_cases h_1 : (D.line : Int) = (3 : Int)
 ·
  refine K.ye (D.line : Int) (3 : Int) h_1 ?_
  refine K.z (K.t (K.h (K.s ?_)))
  refine K.KW.gdrawn [0] hS (by kernel_rfl) ?_
  clear hS; intro w hS
  refine K.p 0 rfl (.pointer (some ⟨pm, 0, none⟩)) (hS.pick [0]) ?_
  refine K.p 1 rfl (.pointer (some ⟨r, 0, none⟩)) (hS.pick [0]) ?_
  refine K.p 2 rfl (.pointer (some ⟨r, 0, none⟩)) (hS.pick [0]) ?_
  refine K.p 3 rfl (.pointer (some ⟨r, 4, none⟩)) (hS.pick [0]) ?_
  refine K.o_ 4 rfl (.int .i64 D.t) (fun w hS => ((hS.blk 0 rfl hgp).cell rfl)) (hS.pick [0]) ?_
  refine K.p 5 rfl (.pointer (some ⟨r, 0, none⟩)) (hS.pick [0]) ?_
  refine K.p 6 rfl (.pointer (some ⟨r, 0, none⟩)) (hS.pick [0]) ?_
  refine K.p 7 rfl (.pointer (some ⟨r, 0, none⟩)) (hS.pick [0]) ?_
  refine K.m 8 rfl (fun w hS => K.QR.ldN [.int .i64 c.th, .int .i64 c.sl, .int .i64 c.lo, .int .i64 c.bu] rfl rfl (by kernel_rfl) (by kernel_rfl) (K.cells (K.cl ((hS.blk 0 rfl hgp).cell rfl) (K.cl ((hS.blk 0 rfl hgp).cell rfl) (K.cl ((hS.blk 0 rfl hgp).cell rfl) (K.cl ((hS.blk 0 rfl hgp).cell rfl) K.cl0)))))) (hS.pick [0]) ?_
  refine K.p 9 rfl (.pointer (some ⟨r, 0, none⟩)) (hS.pick [0]) ?_
  refine K.p 10 rfl (.pointer (some ⟨r, 0, none⟩)) (hS.pick [0]) ?_
  refine K.p 11 rfl (.pointer (some ⟨r, 4, none⟩)) (hS.pick [0]) ?_
  refine K.o_ 12 rfl (.int .i64 D.t) (fun w hS => ((hS.blk 0 rfl hgp).cell rfl)) (hS.pick [0]) ?_
  refine K.b 13 rfl (.pointer (some ⟨r, 0, none⟩)) (hS.pick [0]) ?_
  refine K.b 14 rfl (.pointer (some ⟨r, 0, none⟩)) (hS.pick [0]) ?_
  refine K.b 15 rfl (.pointer (some ⟨r, 7, none⟩)) (hS.pick [0]) ?_
  refine K.c 16 rfl (K.QR.ld1 (v := .int .i64 D.n) rfl rfl (by kernel_rfl) ((hS.blk 0 rfl hgp).cell rfl)) (hS.pick [0]) ?_
  refine K.DW.l 17 rfl (by kernel_rfl) rfl (K.OW.gcall hS [] [0, 1, 2] [.agg #[.int .i64 c.th, .int .i64 c.sl, .int .i64 c.lo, .int .i64 c.bu], .int .i64 D.t, .int .i64 D.n] (rlog_ok _ c (by first | assumption | (unfold cfgOk; decide)) D.t D.n) ?_)
  clear hS; rintro _ _ w ⟨rfl, rfl⟩ hS
  replace hS : K.Sat w0 [gp, l, fr] w := hS
  refine ⟨.inl (hS.pick [0]), ?_⟩
  refine K.DW.l 18 rfl (by kernel_rfl) rfl (K.OW.gcall hS [1] [0, 2] [.pointer (some ⟨pm, 0, none⟩), .int .i64 4, .int .i64 D.t, .int .i64 (logS c D.t D.n), .int .u64 0, .int .u64 0] (rmDo4_ok _ _ _ _ _ _ _ x D.t (logS c D.t D.n) (0 : Int) (0 : Int) (by omega) (by first | omega | assumption | exact log_int (by assumption) _ _ | exact aft_int (by assumption) _ | exact ann_int (by assumption) _ (by omega))) ?_)
  clear hS; rintro _ _ w ⟨l_2, rfl, rfl, x_3⟩ hS
  replace hS : K.Sat w0 [l_2, gp, fr] w := hS
  refine ⟨.inl (hS.pick [1]), ?_⟩
  refine K.DW.done (by kernel_rfl) ?_
  refine K.t (K.s (K.g (K.q [.pointer (some ⟨r, 0, none⟩), .pointer (some ⟨r, 0, none⟩), .pointer (some ⟨r, 6, none⟩)] ?_)))
  refine K.l (K.OW.gst 1 [.int .i64 4] _ hS hgp ?_)
  clear hS; intro w g_4 hg_5 hS
  replace hS : K.Sat w0 [l_2, g_4, fr] w := hS
  refine K.z (K.t (K.r (K.u ?_)))
  have e : dLast c n t D M = (⟨D.t, D.kind, 4, D.n, D.slot, D.place, D.now, D.holds, D.count, D.pc, D.push⟩, ((M.accF n t D.t (logS c D.t D.n)).1)) := by unfold dLast; rw [if_pos (by omega)] <;> rfl
  refine ⟨.inr rfl, rfl, (.tuple #[]), K.res0 rfl, [g_4, l_2], ?_, hS.pick [1, 0, 2]⟩
  exact ⟨_, _, rfl, rfl, by rw [e]; exact hg_5, by rw [e]; exact x_3⟩
 ·
  refine K.xe (D.line : Int) (3 : Int) h_1 ?_
  refine K.z (K.t (K.f (K.k (K.t (K.s (K.g (K.q [.pointer (some ⟨pm, 0, none⟩), .pointer (some ⟨r, 0, none⟩), .pointer (some ⟨r, 0, none⟩), .pointer (some ⟨r, 4, none⟩)] ?_)))))))
  refine K.d (.int .i64 D.t) ((hS.blk 0 rfl hgp).cell rfl) ?_
  refine K.l (K.OW.gcall hS [1] [0, 2] [.pointer (some ⟨pm, 0, none⟩), .int .i64 5, .int .i64 D.t, .int .i64 0, .int .u64 0, .int .u64 0] (rmDo5_ok _ _ _ _ _ _ _ x D.t (0 : Int) (0 : Int) (0 : Int) (by omega) (by first | omega | assumption | exact log_int (by assumption) _ _ | exact aft_int (by assumption) _ | exact ann_int (by assumption) _ (by omega))) ?_)
  clear hS; rintro _ _ w ⟨l_6, rfl, rfl, x_7⟩ hS
  replace hS : K.Sat w0 [l_6, gp, fr] w := hS
  refine K.z (K.t (K.s (K.g (K.q [.pointer (some ⟨r, 0, none⟩), .pointer (some ⟨r, 0, none⟩), .pointer (some ⟨r, 6, none⟩)] ?_))))
  refine K.l (K.OW.gst 1 [.int .i64 0] _ hS hgp ?_)
  clear hS; intro w g_8 hg_9 hS
  replace hS : K.Sat w0 [l_6, g_8, fr] w := hS
  refine K.z (K.t (K.g (K.q [.pointer (some ⟨r, 0, none⟩), .pointer (some ⟨r, 0, none⟩), .pointer (some ⟨r, 0, none⟩), .pointer (some ⟨r, 7, none⟩)] ?_)))
  refine K.d (.int .i64 D.n) ((hS.blk 1 rfl hg_9).cell rfl) ?_
  refine K.q [.pointer (some ⟨r, 0, none⟩), .pointer (some ⟨r, 9, none⟩)] ?_
  refine K.l (K.OW.gst 1 [.int .i64 D.n] _ hS hg_9 ?_)
  clear hS; intro w g_10 hg_11 hS
  replace hS : K.Sat w0 [l_6, g_10, fr] w := hS
  refine K.z ?_
  have e : dLast c n t D M = (⟨D.t, D.kind, 0, D.n, D.slot, D.n, D.now, D.holds, D.count, D.pc, D.push⟩, ((M.accE t D.t).1)) := by unfold dLast; rw [if_neg (by omega)] <;> rfl
  refine ⟨.inl rfl, rfl, (.tuple #[]), K.res0 rfl, [g_10, l_6], ?_, hS.pick [1, 0, 2]⟩
  exact ⟨_, _, rfl, rfl, by rw [e]; exact hg_11, by rw [e]; exact x_7⟩
set_option maxHeartbeats 1000000 in
set_option maxRecDepth 100000 in
theorem dOn_ok (w0 : World) (r : Nat) (c : Cfg) (hc : cfgOk c) (D : DM) (gp : K.Cs) (hgp : gp = dmPt r c D) (hn : -100 ≤ D.n ∧ D.n ≤ 100) :
  K.GC Tryz.prog w0 108 #[.pointer (some ⟨r, 0, none⟩)] [gp] (fun v post => ∃ gp', v = .tuple #[] ∧ post = [gp'] ∧ gp' = dmPt r c (dOn c D)) := by
 refine K.GC.mk (n := 23) Tryz.func108 rfl rfl [.pointer (some ⟨r, 0, none⟩)] rfl rfl ?_
 intro fr w hS
 replace hS : K.Sat w0 [gp, fr] w := hS
 refine K.s (K.g (K.q [.pointer (some ⟨r, 0, none⟩), .pointer (some ⟨r, 0, none⟩), .pointer (some ⟨r, 0, none⟩), .pointer (some ⟨r, 7, none⟩)] ?_))
 refine K.d (.int .i64 D.n) ((hS.blk 0 rfl hgp).cell rfl) ?_
 refine K.a (K.QR.n64 ((D.n : Int) + (1 : Int)) ((D.n : Int) + (1 : Int)) (by kernel_rfl) (by omega)) ?_
 refine K.q [.pointer (some ⟨r, 0, none⟩), .pointer (some ⟨r, 7, none⟩)] ?_
 refine K.l (K.OW.gst 0 [.int .i64 ((D.n : Int) + (1 : Int))] _ hS hgp ?_)
 clear hS; intro w g_1 hg_2 hS
 replace hS : K.Sat w0 [g_1, fr] w := hS
 refine K.z (K.t (K.s ?_))
 refine K.KW.gdrawn [0] hS (by kernel_rfl) ?_
 clear hS; intro w hS
 refine K.p 0 rfl (.pointer (some ⟨r, 0, none⟩)) (hS.pick [0]) ?_
 refine K.p 1 rfl (.pointer (some ⟨r, 0, none⟩)) (hS.pick [0]) ?_
 refine K.p 2 rfl (.pointer (some ⟨r, 7, none⟩)) (hS.pick [0]) ?_
 refine K.o_ 3 rfl (.int .i64 ((D.n : Int) + (1 : Int))) (fun w hS => ((hS.blk 0 rfl hg_2).cell rfl)) (hS.pick [0]) ?_
 refine K.b 4 rfl (.pointer (some ⟨r, 0, none⟩)) (hS.pick [0]) ?_
 refine K.b 5 rfl (.pointer (some ⟨r, 0, none⟩)) (hS.pick [0]) ?_
 refine K.b 6 rfl (.pointer (some ⟨r, 0, none⟩)) (hS.pick [0]) ?_
 refine K.b 7 rfl (.pointer (some ⟨r, 2, none⟩)) (hS.pick [0]) ?_
 refine K.c 8 rfl (K.QR.ld1 (v := .int .i64 c.lo) rfl rfl (by kernel_rfl) ((hS.blk 0 rfl hg_2).cell rfl)) (hS.pick [0]) ?_
 by_cases h_3 : ((D.n : Int) + (1 : Int) : Int) = (c.lo : Int)
 ·
  refine K.c 9 rfl (K.QR.nice (v := .bool (((D.n : Int) + (1 : Int) : Int) == (c.lo : Int))) (by kernel_rfl) (congrArg Value.bool (beq_iff_eq.2 h_3))) (hS.pick [0]) ?_
  refine K.DW.done (by kernel_rfl) ?_
  refine K.t (K.h (K.g (K.q [.pointer (some ⟨r, 0, none⟩), .pointer (some ⟨r, 0, none⟩), .pointer (some ⟨r, 6, none⟩)] ?_)))
  refine K.l (K.OW.gst 0 [.int .i64 0] _ hS hg_2 ?_)
  clear hS; intro w g_4 hg_5 hS
  replace hS : K.Sat w0 [g_4, fr] w := hS
  refine K.z ?_
  refine ⟨.inl rfl, rfl, (.tuple #[]), K.res0 rfl, [g_4], ?_, hS.pick [0, 1]⟩
  exact ⟨_, rfl, rfl, by unfold dOn; rw [if_pos (by omega)]; exact hg_5⟩
 ·
  refine K.c 9 rfl (K.QR.nice (v := .bool (((D.n : Int) + (1 : Int) : Int) == (c.lo : Int))) (by kernel_rfl) (congrArg Value.bool (beq_eq_false_iff_ne.2 h_3))) (hS.pick [0]) ?_
  refine K.DW.done (by kernel_rfl) ?_
  refine K.t (K.f (K.k ?_))
  refine ⟨.inl rfl, rfl, (.tuple #[]), K.res0 rfl, [g_1], ?_, hS.pick [0, 1]⟩
  exact ⟨_, rfl, rfl, by unfold dOn; rw [if_neg (by omega)]; exact hg_2⟩
set_option maxHeartbeats 1000000 in
set_option maxRecDepth 100000 in
theorem dRes_ok (w0 : World) (r pm q n t : Nat) (c : Cfg) (hc : cfgOk c) (D : DM) (M : MemM) (gp l : K.Cs) (hgp : gp = dmPt r c D) (x : RMemAt l pm q n t M) (hM : M.good) (hD : D.good c) (hn : 0 ≤ D.n ∧ D.n ≤ 64) :
  K.GC Tryz.prog w0 63 #[.pointer (some ⟨r, 0, none⟩), .pointer (some ⟨pm, 0, none⟩)] [gp, l] (fun v post => ∃ gp' l', v = .tuple #[] ∧ post = [gp', l'] ∧ gp' = dmPt r c (dRes c n D M).1 ∧ RMemAt l' pm q n t (dRes c n D M).2) := by
 obtain ⟨hDt, hDn, hDs, hDw, hDc, hDpt, hDps, hDpw, hDnb, hDpc⟩ := hD
 have hcc := hc
 unfold cfgOk at hcc
 have hcv := cv64_int D.now
 have hr1 := toI_ge2
 refine K.GC.mk (n := 83) Tryz.func63 rfl rfl [.pointer (some ⟨r, 0, none⟩), .pointer (some ⟨pm, 0, none⟩)] rfl rfl ?_
 intro fr w hS
 replace hS : K.Sat w0 [gp, l, fr] w := hS
 refine K.s (K.s (K.g (K.q [.pointer (some ⟨r, 0, none⟩), .pointer (some ⟨r, 0, none⟩), .pointer (some ⟨r, 6, none⟩)] ?_)))
 refine K.d (.int .i64 D.line) ((hS.blk 0 rfl hgp).cell rfl) ?_
 by_cases h_1 : (D.line : Int) = (1 : Int)
 ·
  refine K.ye (D.line : Int) (1 : Int) h_1 ?_
  refine K.z (K.t (K.h (K.s ?_)))
  refine K.KW.gdrawn [0] hS (by kernel_rfl) ?_
  clear hS; intro w hS
  refine K.p 0 rfl (.pointer (some ⟨pm, 0, none⟩)) (hS.pick [0]) ?_
  refine K.p 1 rfl (.pointer (some ⟨r, 0, none⟩)) (hS.pick [0]) ?_
  refine K.p 2 rfl (.pointer (some ⟨r, 0, none⟩)) (hS.pick [0]) ?_
  refine K.p 3 rfl (.pointer (some ⟨r, 4, none⟩)) (hS.pick [0]) ?_
  refine K.o_ 4 rfl (.int .i64 D.t) (fun w hS => ((hS.blk 0 rfl hgp).cell rfl)) (hS.pick [0]) ?_
  refine K.p 5 rfl (.pointer (some ⟨r, 0, none⟩)) (hS.pick [0]) ?_
  refine K.p 6 rfl (.pointer (some ⟨r, 0, none⟩)) (hS.pick [0]) ?_
  refine K.p 7 rfl (.pointer (some ⟨r, 0, none⟩)) (hS.pick [0]) ?_
  refine K.m 8 rfl (fun w hS => K.QR.ldN [.int .i64 c.th, .int .i64 c.sl, .int .i64 c.lo, .int .i64 c.bu] rfl rfl (by kernel_rfl) (by kernel_rfl) (K.cells (K.cl ((hS.blk 0 rfl hgp).cell rfl) (K.cl ((hS.blk 0 rfl hgp).cell rfl) (K.cl ((hS.blk 0 rfl hgp).cell rfl) (K.cl ((hS.blk 0 rfl hgp).cell rfl) K.cl0)))))) (hS.pick [0]) ?_
  refine K.p 9 rfl (.pointer (some ⟨r, 0, none⟩)) (hS.pick [0]) ?_
  refine K.p 10 rfl (.pointer (some ⟨r, 0, none⟩)) (hS.pick [0]) ?_
  refine K.p 11 rfl (.pointer (some ⟨r, 4, none⟩)) (hS.pick [0]) ?_
  refine K.o_ 12 rfl (.int .i64 D.t) (fun w hS => ((hS.blk 0 rfl hgp).cell rfl)) (hS.pick [0]) ?_
  refine K.b 13 rfl (.pointer (some ⟨r, 0, none⟩)) (hS.pick [0]) ?_
  refine K.b 14 rfl (.pointer (some ⟨r, 0, none⟩)) (hS.pick [0]) ?_
  refine K.b 15 rfl (.pointer (some ⟨r, 7, none⟩)) (hS.pick [0]) ?_
  refine K.c 16 rfl (K.QR.ld1 (v := .int .i64 D.n) rfl rfl (by kernel_rfl) ((hS.blk 0 rfl hgp).cell rfl)) (hS.pick [0]) ?_
  refine K.DW.l 17 rfl (by kernel_rfl) rfl (K.OW.gcall hS [] [0, 1, 2] [.agg #[.int .i64 c.th, .int .i64 c.sl, .int .i64 c.lo, .int .i64 c.bu], .int .i64 D.t, .int .i64 D.n] (rlog_ok _ c (by first | assumption | (unfold cfgOk; decide)) D.t D.n) ?_)
  clear hS; rintro _ _ w ⟨rfl, rfl⟩ hS
  replace hS : K.Sat w0 [gp, l, fr] w := hS
  refine ⟨.inl (hS.pick [0]), ?_⟩
  refine K.DW.l 18 rfl (by kernel_rfl) rfl (K.OW.gcall hS [1] [0, 2] [.pointer (some ⟨pm, 0, none⟩), .int .i64 1, .int .i64 D.t, .int .i64 (logS c D.t D.n), .int .u64 0, .int .u64 0] (rmDo1_ok _ _ _ _ _ _ _ x D.t (logS c D.t D.n) (0 : Int) (0 : Int) (by omega) (by first | omega | assumption | exact log_int (by assumption) _ _ | exact aft_int (by assumption) _ | exact ann_int (by assumption) _ (by omega))) ?_)
  clear hS; rintro _ _ w ⟨l_2, rfl, rfl, x_3⟩ hS
  replace hS : K.Sat w0 [l_2, gp, fr] w := hS
  have hw_4 : isW (M.accL n D.t (logS c D.t D.n)).2.old := (accL_good (by assumption)).2
  refine ⟨.inl (hS.pick [1]), ?_⟩
  refine K.b 19 rfl (.int .u64 ((M.accL n D.t (logS c D.t D.n)).2.old)) (hS.pick [1]) ?_
  refine K.b 20 rfl (.int .u64 ((M.accL n D.t (logS c D.t D.n)).2.old)) (hS.pick [1]) ?_
  refine K.DW.done (by kernel_rfl) ?_
  refine K.t (K.s (K.s (K.g (K.q [.int .u64 ((M.accL n D.t (logS c D.t D.n)).2.old)] ?_))))
  by_cases h_5 : ((M.accL n D.t (logS c D.t D.n)).2.old : Int) = (0 : Int)
  ·
   refine K.ye ((M.accL n D.t (logS c D.t D.n)).2.old : Int) (0 : Int) h_5 ?_
   refine K.z (K.t (K.h (K.s (K.g (K.q [.pointer (some ⟨r, 0, none⟩), .pointer (some ⟨r, 0, none⟩), .pointer (some ⟨r, 6, none⟩)] ?_)))))
   refine K.l (K.OW.gst 1 [.int .i64 2] _ hS hgp ?_)
   clear hS; intro w g_6 hg_7 hS
   replace hS : K.Sat w0 [l_2, g_6, fr] w := hS
   refine K.z (K.t (K.r (K.u (K.u ?_))))
   have e : dRes c n D M = (⟨D.t, D.kind, 2, D.n, D.slot, D.place, D.now, D.holds, D.count, D.pc, D.push⟩, ((M.accL n D.t (logS c D.t D.n)).1)) := by unfold dRes; rw [if_pos (by omega), if_pos (by unfold dLd; omega)] <;> rfl
   refine ⟨.inr rfl, rfl, (.tuple #[]), K.res0 rfl, [g_6, l_2], ?_, hS.pick [1, 0, 2]⟩
   exact ⟨_, _, rfl, rfl, by rw [e]; exact hg_7, by rw [e]; exact x_3⟩
  ·
   refine K.xe ((M.accL n D.t (logS c D.t D.n)).2.old : Int) (0 : Int) h_5 ?_
   refine K.z (K.t (K.f (K.k (K.t (K.s (K.g (K.q [.pointer (some ⟨r, 0, none⟩), .pointer (some ⟨r, 0, none⟩), .pointer (some ⟨r, 0, none⟩), .pointer (some ⟨r, 7, none⟩)] ?_)))))))
   refine K.d (.int .i64 D.n) ((hS.blk 1 rfl hgp).cell rfl) ?_
   refine K.a (K.QR.n64 ((D.n : Int) + (1 : Int)) ((D.n : Int) + (1 : Int)) (by kernel_rfl) (by omega)) ?_
   refine K.q [.pointer (some ⟨r, 0, none⟩), .pointer (some ⟨r, 7, none⟩)] ?_
   refine K.l (K.OW.gst 1 [.int .i64 ((D.n : Int) + (1 : Int))] _ hS hgp ?_)
   clear hS; intro w g_8 hg_9 hS
   replace hS : K.Sat w0 [l_2, g_8, fr] w := hS
   refine K.z (K.t (K.s (K.s ?_)))
   refine K.KW.gdrawn [1] hS (by kernel_rfl) ?_
   clear hS; intro w hS
   refine K.p 0 rfl (.pointer (some ⟨r, 0, none⟩)) (hS.pick [1]) ?_
   refine K.p 1 rfl (.pointer (some ⟨r, 0, none⟩)) (hS.pick [1]) ?_
   refine K.p 2 rfl (.pointer (some ⟨r, 7, none⟩)) (hS.pick [1]) ?_
   refine K.o_ 3 rfl (.int .i64 ((D.n : Int) + (1 : Int))) (fun w hS => ((hS.blk 0 rfl hg_9).cell rfl)) (hS.pick [1]) ?_
   refine K.b 4 rfl (.pointer (some ⟨r, 0, none⟩)) (hS.pick [1]) ?_
   refine K.b 5 rfl (.pointer (some ⟨r, 0, none⟩)) (hS.pick [1]) ?_
   refine K.b 6 rfl (.pointer (some ⟨r, 0, none⟩)) (hS.pick [1]) ?_
   refine K.b 7 rfl (.pointer (some ⟨r, 2, none⟩)) (hS.pick [1]) ?_
   refine K.c 8 rfl (K.QR.ld1 (v := .int .i64 c.lo) rfl rfl (by kernel_rfl) ((hS.blk 1 rfl hg_9).cell rfl)) (hS.pick [1]) ?_
   by_cases h_10 : ((D.n : Int) + (1 : Int) : Int) = (c.lo : Int)
   ·
    refine K.c 9 rfl (K.QR.nice (v := .bool (((D.n : Int) + (1 : Int) : Int) == (c.lo : Int))) (by kernel_rfl) (congrArg Value.bool (beq_iff_eq.2 h_10))) (hS.pick [1]) ?_
    refine K.DW.done (by kernel_rfl) ?_
    refine K.t (K.h (K.g (K.q [.pointer (some ⟨r, 0, none⟩), .pointer (some ⟨r, 0, none⟩), .pointer (some ⟨r, 6, none⟩)] ?_)))
    refine K.l (K.OW.gst 1 [.int .i64 0] _ hS hg_9 ?_)
    clear hS; intro w g_11 hg_12 hS
    replace hS : K.Sat w0 [l_2, g_11, fr] w := hS
    refine K.z (K.t (K.r (K.u ?_)))
    have e0 : dOn c D = ⟨D.t, D.kind, 0, (D.n : Int) + (1 : Int), D.slot, D.place, D.now, D.holds, D.count, D.pc, D.push⟩ := by unfold dOn; rw [if_pos (by omega)]
    have e : dRes c n D M = (⟨D.t, D.kind, 0, (D.n : Int) + (1 : Int), D.slot, D.place, D.now, D.holds, D.count, D.pc, D.push⟩, ((M.accL n D.t (logS c D.t D.n)).1)) := by unfold dRes; rw [if_pos (by omega), if_neg (by unfold dLd; omega), e0] <;> rfl
    refine ⟨.inr rfl, rfl, (.tuple #[]), K.res0 rfl, [g_11, l_2], ?_, hS.pick [1, 0, 2]⟩
    exact ⟨_, _, rfl, rfl, by rw [e]; exact hg_12, by rw [e]; exact x_3⟩
   ·
    refine K.c 9 rfl (K.QR.nice (v := .bool (((D.n : Int) + (1 : Int) : Int) == (c.lo : Int))) (by kernel_rfl) (congrArg Value.bool (beq_eq_false_iff_ne.2 h_10))) (hS.pick [1]) ?_
    refine K.DW.done (by kernel_rfl) ?_
    refine K.t (K.f (K.k (K.t (K.r (K.u ?_)))))
    have e0 : dOn c D = ⟨D.t, D.kind, D.line, (D.n : Int) + (1 : Int), D.slot, D.place, D.now, D.holds, D.count, D.pc, D.push⟩ := by unfold dOn; rw [if_neg (by omega)]
    have e : dRes c n D M = (⟨D.t, D.kind, D.line, (D.n : Int) + (1 : Int), D.slot, D.place, D.now, D.holds, D.count, D.pc, D.push⟩, ((M.accL n D.t (logS c D.t D.n)).1)) := by unfold dRes; rw [if_pos (by omega), if_neg (by unfold dLd; omega), e0] <;> rfl
    refine ⟨.inr rfl, rfl, (.tuple #[]), K.res0 rfl, [g_8, l_2], ?_, hS.pick [1, 0, 2]⟩
    exact ⟨_, _, rfl, rfl, by rw [e]; exact hg_9, by rw [e]; exact x_3⟩
 ·
  refine K.xe (D.line : Int) (1 : Int) h_1 ?_
  refine K.z (K.t (K.f (K.k (K.t (K.s ?_)))))
  refine K.KW.gdrawn [0] hS (by kernel_rfl) ?_
  clear hS; intro w hS
  refine K.p 0 rfl (.pointer (some ⟨pm, 0, none⟩)) (hS.pick [0]) ?_
  refine K.p 1 rfl (.pointer (some ⟨r, 0, none⟩)) (hS.pick [0]) ?_
  refine K.p 2 rfl (.pointer (some ⟨r, 0, none⟩)) (hS.pick [0]) ?_
  refine K.p 3 rfl (.pointer (some ⟨r, 4, none⟩)) (hS.pick [0]) ?_
  refine K.o_ 4 rfl (.int .i64 D.t) (fun w hS => ((hS.blk 0 rfl hgp).cell rfl)) (hS.pick [0]) ?_
  refine K.p 5 rfl (.pointer (some ⟨r, 0, none⟩)) (hS.pick [0]) ?_
  refine K.p 6 rfl (.pointer (some ⟨r, 0, none⟩)) (hS.pick [0]) ?_
  refine K.p 7 rfl (.pointer (some ⟨r, 0, none⟩)) (hS.pick [0]) ?_
  refine K.m 8 rfl (fun w hS => K.QR.ldN [.int .i64 c.th, .int .i64 c.sl, .int .i64 c.lo, .int .i64 c.bu] rfl rfl (by kernel_rfl) (by kernel_rfl) (K.cells (K.cl ((hS.blk 0 rfl hgp).cell rfl) (K.cl ((hS.blk 0 rfl hgp).cell rfl) (K.cl ((hS.blk 0 rfl hgp).cell rfl) (K.cl ((hS.blk 0 rfl hgp).cell rfl) K.cl0)))))) (hS.pick [0]) ?_
  refine K.p 9 rfl (.pointer (some ⟨r, 0, none⟩)) (hS.pick [0]) ?_
  refine K.p 10 rfl (.pointer (some ⟨r, 0, none⟩)) (hS.pick [0]) ?_
  refine K.p 11 rfl (.pointer (some ⟨r, 4, none⟩)) (hS.pick [0]) ?_
  refine K.o_ 12 rfl (.int .i64 D.t) (fun w hS => ((hS.blk 0 rfl hgp).cell rfl)) (hS.pick [0]) ?_
  refine K.p 13 rfl (.pointer (some ⟨r, 0, none⟩)) (hS.pick [0]) ?_
  refine K.p 14 rfl (.pointer (some ⟨r, 0, none⟩)) (hS.pick [0]) ?_
  refine K.p 15 rfl (.pointer (some ⟨r, 7, none⟩)) (hS.pick [0]) ?_
  refine K.o_ 16 rfl (.int .i64 D.n) (fun w hS => ((hS.blk 0 rfl hgp).cell rfl)) (hS.pick [0]) ?_
  refine K.p 18 rfl (.pointer (some ⟨r, 0, none⟩)) (hS.pick [0]) ?_
  refine K.p 19 rfl (.pointer (some ⟨r, 0, none⟩)) (hS.pick [0]) ?_
  refine K.p 20 rfl (.pointer (some ⟨r, 8, none⟩)) (hS.pick [0]) ?_
  refine K.o_ 21 rfl (.int .i64 D.slot) (fun w hS => ((hS.blk 0 rfl hgp).cell rfl)) (hS.pick [0]) ?_
  refine K.DW.l 17 rfl (by kernel_rfl) rfl (K.OW.gcall hS [] [0, 1, 2] [.agg #[.int .i64 c.th, .int .i64 c.sl, .int .i64 c.lo, .int .i64 c.bu], .int .i64 D.t, .int .i64 D.n] (rlog_ok _ c (by first | assumption | (unfold cfgOk; decide)) D.t D.n) ?_)
  clear hS; rintro _ _ w ⟨rfl, rfl⟩ hS
  replace hS : K.Sat w0 [gp, l, fr] w := hS
  refine ⟨.inl (hS.pick [0]), ?_⟩
  refine K.DW.l 22 rfl (by kernel_rfl) rfl (K.OW.gcall hS [] [0, 1, 2] [.int .i64 D.slot, .int .i64 (-1)] (rentry_ok _ D.slot ((-1) : Int) (by omega) (by omega)) ?_)
  clear hS; rintro _ _ w ⟨rfl, rfl⟩ hS
  replace hS : K.Sat w0 [gp, l, fr] w := hS
  have hw_13 : isW (entryI D.slot ((-1) : Int)) := entryI_w _ _
  refine ⟨.inl (hS.pick [0]), ?_⟩
  refine K.DW.l 23 rfl (by kernel_rfl) rfl (K.OW.gcall hS [1] [0, 2] [.pointer (some ⟨pm, 0, none⟩), .int .i64 2, .int .i64 D.t, .int .i64 (logS c D.t D.n), .int .u64 0, .int .u64 (entryI D.slot ((-1) : Int))] (rmDo2_ok _ _ _ _ _ _ _ x D.t (logS c D.t D.n) (0 : Int) (entryI D.slot ((-1) : Int)) (by omega) (by first | omega | assumption | exact log_int (by assumption) _ _ | exact aft_int (by assumption) _ | exact ann_int (by assumption) _ (by omega))) ?_)
  clear hS; rintro _ _ w ⟨l_14, rfl, rfl, x_15⟩ hS
  replace hS : K.Sat w0 [l_14, gp, fr] w := hS
  refine ⟨.inl (hS.pick [1]), ?_⟩
  refine K.DW.done (by kernel_rfl) ?_
  refine K.t (K.g (K.q [.pointer (some ⟨r, 0, none⟩), .pointer (some ⟨r, 0, none⟩), .pointer (some ⟨r, 6, none⟩)] ?_))
  refine K.l (K.OW.gst 1 [.int .i64 3] _ hS hgp ?_)
  clear hS; intro w g_16 hg_17 hS
  replace hS : K.Sat w0 [l_14, g_16, fr] w := hS
  refine K.z ?_
  have e : dRes c n D M = (⟨D.t, D.kind, 3, D.n, D.slot, D.place, D.now, D.holds, D.count, D.pc, D.push⟩, ((M.accS n D.t (logS c D.t D.n) (entryI D.slot ((-1) : Int))).1)) := by unfold dRes; rw [if_neg (by omega)] <;> rfl
  refine ⟨.inl rfl, rfl, (.tuple #[]), K.res0 rfl, [g_16, l_14], ?_, hS.pick [1, 0, 2]⟩
  exact ⟨_, _, rfl, rfl, by rw [e]; exact hg_17, by rw [e]; exact x_15⟩
set_option maxHeartbeats 1000000 in
set_option maxRecDepth 100000 in
theorem dPush_ok (w0 : World) (r pm q n t : Nat) (c : Cfg) (hc : cfgOk c) (D : DM) (M : MemM) (gp l : K.Cs) (hgp : gp = dmPt r c D) (x : RMemAt l pm q n t M) (hM : M.good) (hD : D.good c) (hpc : D.pc = c) :
  K.GC Tryz.prog w0 109 #[.pointer (some ⟨r, 13, none⟩), .pointer (some ⟨pm, 0, none⟩)] [gp, l] (fun v post => ∃ gp' l', v = .tuple #[] ∧ post = [gp', l'] ∧ gp' = dmPt r c ⟨D.t, D.kind, D.line, D.n, D.slot, D.place, D.now, D.holds, D.count, c, (dPush c n D.push M).1⟩ ∧ RMemAt l' pm q n t (dPush c n D.push M).2) := by
 obtain ⟨hDt, hDn, hDs, hDw, hDc, hDpt, hDps, hDpw, hDnb, hDpc⟩ := hD
 have hcc := hc
 unfold cfgOk at hcc
 have hcv := cv64_int D.now
 have hr1 := toI_ge2
 have hpw2 := hDpw
 unfold isW at hpw2
 have hgp2 : gp = dmPt r c ⟨D.t, D.kind, D.line, D.n, D.slot, D.place, D.now, D.holds, D.count, c, D.push⟩ := by rw [hgp, ← hpc]
 refine K.GC.mk (n := 83) Tryz.func109 rfl rfl [.pointer (some ⟨r, 13, none⟩), .pointer (some ⟨pm, 0, none⟩)] rfl rfl ?_
 intro fr w hS
 replace hS : K.Sat w0 [gp, l, fr] w := hS
 refine K.s (K.s (K.g (K.q [.pointer (some ⟨r, 13, none⟩), .pointer (some ⟨r, 13, none⟩), .pointer (some ⟨r, 18, none⟩)] ?_)))
 refine K.d (.int .i64 D.push.line) ((hS.blk 0 rfl hgp2).cell rfl) ?_
 by_cases h_1 : (D.push.line : Int) = (1 : Int)
 ·
  refine K.ye (D.push.line : Int) (1 : Int) h_1 ?_
  refine K.z (K.t (K.h (K.s (K.g (K.q [.pointer (some ⟨r, 13, none⟩), .pointer (some ⟨pm, 0, none⟩), .pointer (some ⟨r, 13, none⟩), .pointer (some ⟨r, 13, none⟩), .pointer (some ⟨r, 17, none⟩)] ?_)))))
  refine K.d (.int .i64 D.push.t) ((hS.blk 0 rfl hgp2).cell rfl) ?_
  refine K.l (K.OW.gcall hS [1] [0, 2] [.pointer (some ⟨pm, 0, none⟩), .int .i64 1, .int .i64 D.push.t, .int .i64 (-2), .int .u64 0, .int .u64 0] (rmDo1_ok _ _ _ _ _ _ _ x D.push.t ((-2) : Int) (0 : Int) (0 : Int) (by omega) (by first | omega | assumption | exact log_int (by assumption) _ _ | exact aft_int (by assumption) _ | exact ann_int (by assumption) _ (by omega))) ?_)
  clear hS; rintro _ _ w ⟨l_2, rfl, rfl, x_3⟩ hS
  replace hS : K.Sat w0 [l_2, gp, fr] w := hS
  have hw_4 : isW (M.accL n D.push.t ((-2) : Int)).2.old := (accL_good (by assumption)).2
  refine K.q [.int .u64 ((M.accL n D.push.t ((-2) : Int)).2.old), .pointer (some ⟨r, 13, none⟩), .pointer (some ⟨r, 19, none⟩)] ?_
  refine K.l (K.OW.gst 1 [.int .u64 ((M.accL n D.push.t ((-2) : Int)).2.old)] _ hS hgp2 ?_)
  clear hS; intro w g_5 hg_6 hS
  replace hS : K.Sat w0 [l_2, g_5, fr] w := hS
  refine K.z (K.t (K.s (K.g (K.q [.pointer (some ⟨r, 13, none⟩), .pointer (some ⟨r, 13, none⟩), .pointer (some ⟨r, 18, none⟩)] ?_))))
  refine K.l (K.OW.gst 1 [.int .i64 2] _ hS hg_6 ?_)
  clear hS; intro w g_7 hg_8 hS
  replace hS : K.Sat w0 [l_2, g_7, fr] w := hS
  refine K.z (K.t (K.r (K.u ?_)))
  have e : dPush c n D.push M = (⟨D.push.t, 2, (M.accL n D.push.t ((-2) : Int)).2.old, D.push.slot⟩, ((M.accL n D.push.t ((-2) : Int)).1)) := by unfold dPush; rw [if_pos (by omega)] <;> rfl
  refine ⟨.inr rfl, rfl, (.tuple #[]), K.res0 rfl, [g_7, l_2], ?_, hS.pick [1, 0, 2]⟩
  exact ⟨_, _, rfl, rfl, by rw [e]; exact hg_8, by rw [e]; exact x_3⟩
 ·
  refine K.xe (D.push.line : Int) (1 : Int) h_1 ?_
  refine K.z (K.t (K.f (K.k (K.t (K.s (K.s (K.g (K.q [.pointer (some ⟨r, 13, none⟩), .pointer (some ⟨r, 13, none⟩), .pointer (some ⟨r, 18, none⟩)] ?_))))))))
  refine K.d (.int .i64 D.push.line) ((hS.blk 0 rfl hgp2).cell rfl) ?_
  by_cases h_9 : (D.push.line : Int) = (2 : Int)
  ·
   refine K.ye (D.push.line : Int) (2 : Int) h_9 ?_
   refine K.z (K.t (K.h (K.s ?_)))
   refine K.KW.gdrawn [0] hS (by kernel_rfl) ?_
   clear hS; intro w hS
   refine K.p 0 rfl (.pointer (some ⟨pm, 0, none⟩)) (hS.pick [0]) ?_
   refine K.p 1 rfl (.pointer (some ⟨r, 13, none⟩)) (hS.pick [0]) ?_
   refine K.p 2 rfl (.pointer (some ⟨r, 13, none⟩)) (hS.pick [0]) ?_
   refine K.p 3 rfl (.pointer (some ⟨r, 17, none⟩)) (hS.pick [0]) ?_
   refine K.o_ 4 rfl (.int .i64 D.push.t) (fun w hS => ((hS.blk 0 rfl hgp2).cell rfl)) (hS.pick [0]) ?_
   refine K.p 5 rfl (.pointer (some ⟨r, 13, none⟩)) (hS.pick [0]) ?_
   refine K.p 6 rfl (.pointer (some ⟨r, 13, none⟩)) (hS.pick [0]) ?_
   refine K.p 7 rfl (.pointer (some ⟨r, 13, none⟩)) (hS.pick [0]) ?_
   refine K.m 8 rfl (fun w hS => K.QR.ldN [.int .i64 c.th, .int .i64 c.sl, .int .i64 c.lo, .int .i64 c.bu] rfl rfl (by kernel_rfl) (by kernel_rfl) (K.cells (K.cl ((hS.blk 0 rfl hgp2).cell rfl) (K.cl ((hS.blk 0 rfl hgp2).cell rfl) (K.cl ((hS.blk 0 rfl hgp2).cell rfl) (K.cl ((hS.blk 0 rfl hgp2).cell rfl) K.cl0)))))) (hS.pick [0]) ?_
   refine K.p 9 rfl (.pointer (some ⟨r, 13, none⟩)) (hS.pick [0]) ?_
   refine K.p 10 rfl (.pointer (some ⟨r, 13, none⟩)) (hS.pick [0]) ?_
   refine K.p 11 rfl (.pointer (some ⟨r, 20, none⟩)) (hS.pick [0]) ?_
   refine K.o_ 12 rfl (.int .i64 D.push.slot) (fun w hS => ((hS.blk 0 rfl hgp2).cell rfl)) (hS.pick [0]) ?_
   refine K.p 14 rfl (.pointer (some ⟨r, 13, none⟩)) (hS.pick [0]) ?_
   refine K.p 15 rfl (.pointer (some ⟨r, 13, none⟩)) (hS.pick [0]) ?_
   refine K.p 16 rfl (.pointer (some ⟨r, 19, none⟩)) (hS.pick [0]) ?_
   refine K.o_ 17 rfl (.int .u64 D.push.top) (fun w hS => ((hS.blk 0 rfl hgp2).cell rfl)) (hS.pick [0]) ?_
   refine K.m 18 rfl (fun w hS => K.QR.remu64 (D.push.top : Int) 4294967296 ((D.push.top : Int) % 4294967296) (by kernel_rfl) (by omega) (by omega)) (hS.pick [0]) ?_
   refine K.DW.l 13 rfl (by kernel_rfl) rfl (K.OW.gcall hS [] [0, 1, 2] [.agg #[.int .i64 c.th, .int .i64 c.sl, .int .i64 c.lo, .int .i64 c.bu], .int .i64 D.push.slot] (rafter_ok _ c (by assumption) D.push.slot) ?_)
   clear hS; rintro _ _ w ⟨rfl, rfl⟩ hS
   replace hS : K.Sat w0 [gp, l, fr] w := hS
   refine ⟨.inl (hS.pick [0]), ?_⟩
   refine K.DW.l 19 rfl (by kernel_rfl) rfl (K.OW.gcall hS [1] [0, 2] [.pointer (some ⟨pm, 0, none⟩), .int .i64 2, .int .i64 D.push.t, .int .i64 (aftS c D.push.slot), .int .u64 0, .int .u64 ((D.push.top : Int) % 4294967296)] (rmDo2_ok _ _ _ _ _ _ _ x D.push.t (aftS c D.push.slot) (0 : Int) ((D.push.top : Int) % 4294967296) (by omega) (by first | omega | assumption | exact log_int (by assumption) _ _ | exact aft_int (by assumption) _ | exact ann_int (by assumption) _ (by omega))) ?_)
   clear hS; rintro _ _ w ⟨l_10, rfl, rfl, x_11⟩ hS
   replace hS : K.Sat w0 [l_10, gp, fr] w := hS
   refine ⟨.inl (hS.pick [1]), ?_⟩
   refine K.DW.done (by kernel_rfl) ?_
   refine K.t (K.s (K.g (K.q [.pointer (some ⟨r, 13, none⟩), .pointer (some ⟨r, 13, none⟩), .pointer (some ⟨r, 18, none⟩)] ?_)))
   refine K.l (K.OW.gst 1 [.int .i64 3] _ hS hgp2 ?_)
   clear hS; intro w g_12 hg_13 hS
   replace hS : K.Sat w0 [l_10, g_12, fr] w := hS
   refine K.z (K.t (K.r (K.u ?_)))
   have e : dPush c n D.push M = (⟨D.push.t, 3, D.push.top, D.push.slot⟩, ((M.accS n D.push.t (aftS c D.push.slot) ((D.push.top : Int) % 4294967296)).1)) := by unfold dPush; rw [if_neg (by omega), if_pos (by omega)] <;> rfl
   refine ⟨.inr rfl, rfl, (.tuple #[]), K.res0 rfl, [g_12, l_10], ?_, hS.pick [1, 0, 2]⟩
   exact ⟨_, _, rfl, rfl, by rw [e]; exact hg_13, by rw [e]; exact x_11⟩
  ·
   refine K.xe (D.push.line : Int) (2 : Int) h_9 ?_
   refine K.z (K.t (K.f (K.k (K.t (K.s (K.g (K.q [.pointer (some ⟨r, 13, none⟩), .pointer (some ⟨r, 13, none⟩), .pointer (some ⟨r, 18, none⟩)] ?_)))))))
   refine K.d (.int .i64 D.push.line) ((hS.blk 0 rfl hgp2).cell rfl) ?_
   by_cases h_14 : (D.push.line : Int) = (3 : Int)
   ·
    refine K.ye (D.push.line : Int) (3 : Int) h_14 ?_
    refine K.z (K.t (K.h (K.s (K.g (K.q [.pointer (some ⟨r, 13, none⟩), .pointer (some ⟨r, 13, none⟩), .pointer (some ⟨r, 18, none⟩)] ?_)))))
    refine K.l (K.OW.gst 0 [.int .i64 1] _ hS hgp2 ?_)
    clear hS; intro w g_15 hg_16 hS
    replace hS : K.Sat w0 [g_15, l, fr] w := hS
    refine K.z (K.t (K.s ?_))
    refine K.KW.gdrawn [0] hS (by kernel_rfl) ?_
    clear hS; intro w hS
    refine K.p 0 rfl (.pointer (some ⟨pm, 0, none⟩)) (hS.pick [0]) ?_
    refine K.p 1 rfl (.pointer (some ⟨r, 13, none⟩)) (hS.pick [0]) ?_
    refine K.p 2 rfl (.pointer (some ⟨r, 13, none⟩)) (hS.pick [0]) ?_
    refine K.p 3 rfl (.pointer (some ⟨r, 17, none⟩)) (hS.pick [0]) ?_
    refine K.o_ 4 rfl (.int .i64 D.push.t) (fun w hS => ((hS.blk 0 rfl hg_16).cell rfl)) (hS.pick [0]) ?_
    refine K.p 5 rfl (.pointer (some ⟨r, 13, none⟩)) (hS.pick [0]) ?_
    refine K.p 6 rfl (.pointer (some ⟨r, 13, none⟩)) (hS.pick [0]) ?_
    refine K.p 7 rfl (.pointer (some ⟨r, 19, none⟩)) (hS.pick [0]) ?_
    refine K.o_ 8 rfl (.int .u64 D.push.top) (fun w hS => ((hS.blk 0 rfl hg_16).cell rfl)) (hS.pick [0]) ?_
    refine K.p 9 rfl (.pointer (some ⟨r, 13, none⟩)) (hS.pick [0]) ?_
    refine K.p 10 rfl (.pointer (some ⟨r, 13, none⟩)) (hS.pick [0]) ?_
    refine K.p 11 rfl (.pointer (some ⟨r, 20, none⟩)) (hS.pick [0]) ?_
    refine K.o_ 12 rfl (.int .i64 D.push.slot) (fun w hS => ((hS.blk 0 rfl hg_16).cell rfl)) (hS.pick [0]) ?_
    refine K.b 13 rfl (.pointer (some ⟨r, 13, none⟩)) (hS.pick [0]) ?_
    refine K.b 14 rfl (.pointer (some ⟨r, 13, none⟩)) (hS.pick [0]) ?_
    refine K.b 15 rfl (.pointer (some ⟨r, 19, none⟩)) (hS.pick [0]) ?_
    refine K.c 16 rfl (K.QR.ld1 (v := .int .u64 D.push.top) rfl rfl (by kernel_rfl) ((hS.blk 0 rfl hg_16).cell rfl)) (hS.pick [0]) ?_
    refine K.DW.l 17 rfl (by kernel_rfl) rfl (K.OW.gcall hS [] [0, 1, 2] [.int .u64 D.push.top] (rver_ok _ D.push.top (by first | assumption | (unfold isW; omega))) ?_)
    clear hS; rintro _ _ w ⟨rfl, rfl⟩ hS
    replace hS : K.Sat w0 [g_15, l, fr] w := hS
    refine ⟨.inl (hS.pick [0]), ?_⟩
    refine K.c 18 rfl (K.QR.turn (v := .int .u32 (IntKind.u32.wrap (((verI D.push.top) : Int) + (1 : Int)))) (K.QR.k (v := .int .u32 (IntKind.u32.wrap (((verI D.push.top) : Int) + (1 : Int)))) (by kernel_rfl)) (congrArg (Value.int .u32) (show (IntKind.u32.wrap (((verI D.push.top) : Int) + (1 : Int)) : Int) = ((((verI D.push.top)) + (1)) % 4294967296 : Int) from wrapU32 _))) (hS.pick [0]) ?_
    refine K.DW.l 19 rfl (by kernel_rfl) rfl (K.OW.gcall hS [] [0, 1, 2] [.int .i64 D.push.slot, .int .u32 ((((verI D.push.top)) + (1)) % 4294967296)] (rtop_ok _ D.push.slot ((((verI D.push.top)) + (1)) % 4294967296) (by first | omega | (unfold toI; omega)) (by first | omega | decide)) ?_)
    clear hS; rintro _ _ w ⟨rfl, rfl⟩ hS
    replace hS : K.Sat w0 [g_15, l, fr] w := hS
    refine ⟨.inl (hS.pick [0]), ?_⟩
    refine K.DW.l 20 rfl (by kernel_rfl) rfl (K.OW.gcall hS [1] [0, 2] [.pointer (some ⟨pm, 0, none⟩), .int .i64 3, .int .i64 D.push.t, .int .i64 (-2), .int .u64 D.push.top, .int .u64 (topI D.push.slot ((((verI D.push.top)) + (1)) % 4294967296))] (rmDo3_ok _ _ _ _ _ _ _ x D.push.t ((-2) : Int) D.push.top (topI D.push.slot ((((verI D.push.top)) + (1)) % 4294967296)) (by omega) (by first | omega | assumption | exact log_int (by assumption) _ _ | exact aft_int (by assumption) _ | exact ann_int (by assumption) _ (by omega))) ?_)
    clear hS; rintro _ _ w ⟨l_17, rfl, rfl, x_18⟩ hS
    replace hS : K.Sat w0 [l_17, g_15, fr] w := hS
    refine ⟨.inl (hS.pick [1]), ?_⟩
    refine K.b 21 rfl (.bool ((M.accW n D.push.t ((-2) : Int) D.push.top (topI D.push.slot ((((verI D.push.top)) + (1)) % 4294967296))).2.done)) (hS.pick [1]) ?_
    cases hb_19 : (M.accW n D.push.t ((-2) : Int) D.push.top (topI D.push.slot ((((verI D.push.top)) + (1)) % 4294967296))).2.done
    ·
     refine K.DW.done (by kernel_rfl) ?_
     refine K.t (K.f (K.k ?_))
     have e : dPush c n D.push M = (⟨D.push.t, 1, D.push.top, D.push.slot⟩, ((M.accW n D.push.t ((-2) : Int) D.push.top (topI D.push.slot ((((verI D.push.top)) + (1)) % 4294967296))).1)) := by unfold dPush newerI; rw [if_neg (by omega), if_neg (by omega), if_pos (by omega), if_neg (by rw [hb_19]; decide)] <;> rfl
     refine ⟨.inl rfl, rfl, (.tuple #[]), K.res0 rfl, [g_15, l_17], ?_, hS.pick [1, 0, 2]⟩
     exact ⟨_, _, rfl, rfl, by rw [e]; exact hg_16, by rw [e]; exact x_18⟩
    ·
     refine K.DW.done (by kernel_rfl) ?_
     refine K.t (K.h (K.g (K.q [.pointer (some ⟨r, 13, none⟩), .pointer (some ⟨r, 13, none⟩), .pointer (some ⟨r, 18, none⟩)] ?_)))
     refine K.l (K.OW.gst 1 [.int .i64 0] _ hS hg_16 ?_)
     clear hS; intro w g_20 hg_21 hS
     replace hS : K.Sat w0 [l_17, g_20, fr] w := hS
     refine K.z ?_
     have e : dPush c n D.push M = (⟨D.push.t, 0, D.push.top, D.push.slot⟩, ((M.accW n D.push.t ((-2) : Int) D.push.top (topI D.push.slot ((((verI D.push.top)) + (1)) % 4294967296))).1)) := by unfold dPush newerI; rw [if_neg (by omega), if_neg (by omega), if_pos (by omega), if_pos hb_19] <;> rfl
     refine ⟨.inl rfl, rfl, (.tuple #[]), K.res0 rfl, [g_20, l_17], ?_, hS.pick [1, 0, 2]⟩
     exact ⟨_, _, rfl, rfl, by rw [e]; exact hg_21, by rw [e]; exact x_18⟩
   ·
    refine K.xe (D.push.line : Int) (3 : Int) h_14 ?_
    refine K.z (K.t (K.f (K.k ?_)))
    have e : dPush c n D.push M = (D.push, M) := by unfold dPush; rw [if_neg (by omega), if_neg (by omega), if_neg (by omega)] <;> rfl
    refine ⟨.inl rfl, rfl, (.tuple #[]), K.res0 rfl, [gp, l], ?_, hS.pick [0, 1, 2]⟩
    exact ⟨_, _, rfl, rfl, by rw [e]; exact hgp2, by rw [e]; exact x⟩
set_option maxHeartbeats 1000000 in
set_option maxRecDepth 100000 in
theorem dRec_ok (w0 : World) (r pm q n t : Nat) (c : Cfg) (hc : cfgOk c) (D : DM) (M : MemM) (gp l : K.Cs) (hgp : gp = dmPt r c D) (x : RMemAt l pm q n t M) (hM : M.good) (hD : D.good c) (hk : D.kind = 3) (hl : ¬ D.line = 0) :
  K.GC Tryz.prog w0 60 #[.pointer (some ⟨r, 0, none⟩), .pointer (some ⟨pm, 0, none⟩)] [gp, l] (fun v post => ∃ gp' l', v = .tuple #[] ∧ post = [gp', l'] ∧ gp' = dmPt r c (dRec c n D M).1 ∧ RMemAt l' pm q n t (dRec c n D M).2) := by
 have hD0 := hD
 obtain ⟨hDt, hDn, hDs, hDw, hDc, hDpt, hDps, hDpw, hDnb, hDpc⟩ := hD
 have hcc := hc
 unfold cfgOk at hcc
 have hcv := cv64_int D.now
 have hr1 := toI_ge2
 have hst := stampI_rng
 have hDw2 := hDw
 unfold isW at hDw2
 refine K.GC.mk (n := 162) Tryz.func60 rfl rfl [.pointer (some ⟨r, 0, none⟩), .pointer (some ⟨pm, 0, none⟩)] rfl rfl ?_
 intro fr w hS
 replace hS : K.Sat w0 [gp, l, fr] w := hS
 refine K.s (K.s (K.g (K.q [.pointer (some ⟨r, 0, none⟩), .pointer (some ⟨r, 0, none⟩), .pointer (some ⟨r, 6, none⟩)] ?_)))
 refine K.d (.int .i64 D.line) ((hS.blk 0 rfl hgp).cell rfl) ?_
 by_cases h_1 : (D.line : Int) = (1 : Int)
 ·
  refine K.ye (D.line : Int) (1 : Int) h_1 ?_
  refine K.z (K.t (K.h (K.s (K.g (K.q [.pointer (some ⟨r, 0, none⟩), .pointer (some ⟨pm, 0, none⟩), .pointer (some ⟨r, 0, none⟩), .pointer (some ⟨r, 0, none⟩), .pointer (some ⟨r, 4, none⟩)] ?_)))))
  refine K.d (.int .i64 D.t) ((hS.blk 0 rfl hgp).cell rfl) ?_
  refine K.l (K.OW.gcall hS [1] [0, 2] [.pointer (some ⟨pm, 0, none⟩), .int .i64 1, .int .i64 D.t, .int .i64 (-1), .int .u64 0, .int .u64 0] (rmDo1_ok _ _ _ _ _ _ _ x D.t ((-1) : Int) (0 : Int) (0 : Int) (by omega) (by first | omega | assumption | exact log_int (by assumption) _ _ | exact aft_int (by assumption) _ | exact ann_int (by assumption) _ (by omega))) ?_)
  clear hS; rintro _ _ w ⟨l_2, rfl, rfl, x_3⟩ hS
  replace hS : K.Sat w0 [l_2, gp, fr] w := hS
  have hw_4 : isW (M.accL n D.t ((-1) : Int)).2.old := (accL_good (by assumption)).2
  refine K.q [.int .u64 ((M.accL n D.t ((-1) : Int)).2.old), .pointer (some ⟨r, 0, none⟩), .pointer (some ⟨r, 10, none⟩)] ?_
  refine K.l (K.OW.gst 1 [.int .u64 ((M.accL n D.t ((-1) : Int)).2.old)] _ hS hgp ?_)
  clear hS; intro w g_5 hg_6 hS
  replace hS : K.Sat w0 [l_2, g_5, fr] w := hS
  refine K.z (K.t (K.s (K.g (K.q [.pointer (some ⟨r, 0, none⟩), .pointer (some ⟨r, 0, none⟩), .pointer (some ⟨r, 6, none⟩)] ?_))))
  refine K.l (K.OW.gst 1 [.int .i64 2] _ hS hg_6 ?_)
  clear hS; intro w g_7 hg_8 hS
  replace hS : K.Sat w0 [l_2, g_7, fr] w := hS
  refine K.z (K.t (K.r (K.u ?_)))
  have e : dRec c n D M = (⟨D.t, D.kind, 2, D.n, D.slot, D.place, (M.accL n D.t ((-1) : Int)).2.old, D.holds, D.count, D.pc, D.push⟩, ((M.accL n D.t ((-1) : Int)).1)) := by unfold dRec; rw [if_pos (by omega)] <;> rfl
  refine ⟨.inr rfl, rfl, (.tuple #[]), K.res0 rfl, [g_7, l_2], ?_, hS.pick [1, 0, 2]⟩
  exact ⟨_, _, rfl, rfl, by rw [e]; exact hg_8, by rw [e]; exact x_3⟩
 ·
  refine K.xe (D.line : Int) (1 : Int) h_1 ?_
  refine K.z (K.t (K.f (K.k (K.t (K.s (K.s (K.g (K.q [.pointer (some ⟨r, 0, none⟩), .pointer (some ⟨r, 0, none⟩), .pointer (some ⟨r, 6, none⟩)] ?_))))))))
  refine K.d (.int .i64 D.line) ((hS.blk 0 rfl hgp).cell rfl) ?_
  by_cases h_9 : (D.line : Int) = (2 : Int)
  ·
   refine K.ye (D.line : Int) (2 : Int) h_9 ?_
   refine K.z (K.t (K.h (K.s ?_)))
   refine K.KW.gdrawn [0] hS (by kernel_rfl) ?_
   clear hS; intro w hS
   refine K.p 0 rfl (.pointer (some ⟨pm, 0, none⟩)) (hS.pick [0]) ?_
   refine K.p 1 rfl (.pointer (some ⟨r, 0, none⟩)) (hS.pick [0]) ?_
   refine K.p 2 rfl (.pointer (some ⟨r, 0, none⟩)) (hS.pick [0]) ?_
   refine K.p 3 rfl (.pointer (some ⟨r, 4, none⟩)) (hS.pick [0]) ?_
   refine K.o_ 4 rfl (.int .i64 D.t) (fun w hS => ((hS.blk 0 rfl hgp).cell rfl)) (hS.pick [0]) ?_
   refine K.p 5 rfl (.pointer (some ⟨r, 0, none⟩)) (hS.pick [0]) ?_
   refine K.p 6 rfl (.pointer (some ⟨r, 0, none⟩)) (hS.pick [0]) ?_
   refine K.p 7 rfl (.pointer (some ⟨r, 0, none⟩)) (hS.pick [0]) ?_
   refine K.m 8 rfl (fun w hS => K.QR.ldN [.int .i64 c.th, .int .i64 c.sl, .int .i64 c.lo, .int .i64 c.bu] rfl rfl (by kernel_rfl) (by kernel_rfl) (K.cells (K.cl ((hS.blk 0 rfl hgp).cell rfl) (K.cl ((hS.blk 0 rfl hgp).cell rfl) (K.cl ((hS.blk 0 rfl hgp).cell rfl) (K.cl ((hS.blk 0 rfl hgp).cell rfl) K.cl0)))))) (hS.pick [0]) ?_
   refine K.p 9 rfl (.pointer (some ⟨r, 0, none⟩)) (hS.pick [0]) ?_
   refine K.p 10 rfl (.pointer (some ⟨r, 0, none⟩)) (hS.pick [0]) ?_
   refine K.p 11 rfl (.pointer (some ⟨r, 4, none⟩)) (hS.pick [0]) ?_
   refine K.o_ 12 rfl (.int .i64 D.t) (fun w hS => ((hS.blk 0 rfl hgp).cell rfl)) (hS.pick [0]) ?_
   refine K.b 13 rfl (.pointer (some ⟨r, 0, none⟩)) (hS.pick [0]) ?_
   refine K.b 14 rfl (.pointer (some ⟨r, 0, none⟩)) (hS.pick [0]) ?_
   refine K.b 15 rfl (.pointer (some ⟨r, 7, none⟩)) (hS.pick [0]) ?_
   refine K.c 16 rfl (K.QR.ld1 (v := .int .i64 D.n) rfl rfl (by kernel_rfl) ((hS.blk 0 rfl hgp).cell rfl)) (hS.pick [0]) ?_
   refine K.DW.l 17 rfl (by kernel_rfl) rfl (K.OW.gcall hS [] [0, 1, 2] [.agg #[.int .i64 c.th, .int .i64 c.sl, .int .i64 c.lo, .int .i64 c.bu], .int .i64 D.t, .int .i64 D.n] (rlog_ok _ c (by first | assumption | (unfold cfgOk; decide)) D.t D.n) ?_)
   clear hS; rintro _ _ w ⟨rfl, rfl⟩ hS
   replace hS : K.Sat w0 [gp, l, fr] w := hS
   refine ⟨.inl (hS.pick [0]), ?_⟩
   refine K.DW.l 18 rfl (by kernel_rfl) rfl (K.OW.gcall hS [1] [0, 2] [.pointer (some ⟨pm, 0, none⟩), .int .i64 1, .int .i64 D.t, .int .i64 (logS c D.t D.n), .int .u64 0, .int .u64 0] (rmDo1_ok _ _ _ _ _ _ _ x D.t (logS c D.t D.n) (0 : Int) (0 : Int) (by omega) (by first | omega | assumption | exact log_int (by assumption) _ _ | exact aft_int (by assumption) _ | exact ann_int (by assumption) _ (by omega))) ?_)
   clear hS; rintro _ _ w ⟨l_10, rfl, rfl, x_11⟩ hS
   replace hS : K.Sat w0 [l_10, gp, fr] w := hS
   have hw_12 : isW (M.accL n D.t (logS c D.t D.n)).2.old := (accL_good (by assumption)).2
   refine ⟨.inl (hS.pick [1]), ?_⟩
   refine K.b 19 rfl (.int .u64 ((M.accL n D.t (logS c D.t D.n)).2.old)) (hS.pick [1]) ?_
   refine K.b 20 rfl (.int .u64 ((M.accL n D.t (logS c D.t D.n)).2.old)) (hS.pick [1]) ?_
   refine K.DW.done (by kernel_rfl) ?_
   refine K.t (K.s ?_)
   have hs1 := stampI_rng ((M.accL n D.t (logS c D.t D.n)).2.old)
   have hs2 := toI_ge2 ((M.accL n D.t (logS c D.t D.n)).2.old)
   refine K.g (K.q [.int .u64 ((M.accL n D.t (logS c D.t D.n)).2.old)] ?_)
   refine K.l (K.OW.gcall hS [] [0, 1, 2] [.int .u64 ((M.accL n D.t (logS c D.t D.n)).2.old)] (rstamp_ok _ ((M.accL n D.t (logS c D.t D.n)).2.old) (by first | assumption | (unfold isW; omega))) ?_)
   clear hS; rintro _ _ w ⟨rfl, rfl⟩ hS
   replace hS : K.Sat w0 [l_10, gp, fr] w := hS
   refine K.q [.int .i64 (stampI ((M.accL n D.t (logS c D.t D.n)).2.old))] (K.z (K.t (K.s (K.s (K.g (K.q [.int .u64 ((M.accL n D.t (logS c D.t D.n)).2.old)] ?_))))))
   refine K.l (K.OW.gcall hS [] [0, 1, 2] [.int .u64 ((M.accL n D.t (logS c D.t D.n)).2.old)] (rto_ok _ ((M.accL n D.t (logS c D.t D.n)).2.old) (by first | assumption | (unfold isW; omega))) ?_)
   clear hS; rintro _ _ w ⟨rfl, rfl⟩ hS
   replace hS : K.Sat w0 [l_10, gp, fr] w := hS
   by_cases h_13 : ((toI ((M.accL n D.t (logS c D.t D.n)).2.old)) : Int) ≥ (0 : Int)
   ·
    refine K.y (((toI ((M.accL n D.t (logS c D.t D.n)).2.old)) : Int) ≥ (0 : Int)) h_13 ?_
    refine K.q [.bool true, .int .i64 (stampI ((M.accL n D.t (logS c D.t D.n)).2.old))] ?_
    by_cases h_14 : ((stampI ((M.accL n D.t (logS c D.t D.n)).2.old)) : Int) ≥ (0 : Int)
    ·
     refine K.y (((stampI ((M.accL n D.t (logS c D.t D.n)).2.old)) : Int) ≥ (0 : Int)) h_14 ?_
     refine K.q [.bool true, .bool true, .pointer (some ⟨r, 0, none⟩), .pointer (some ⟨r, 0, none⟩), .pointer (some ⟨r, 10, none⟩)] ?_
     refine K.d (.int .u64 D.now) ((hS.blk 1 rfl hgp).cell rfl) ?_
     by_cases h_15 : (D.now : Int) ≥ (2 : Int)
     ·
      refine K.y ((D.now : Int) ≥ (2 : Int)) h_15 ?_
      refine K.q [.bool true, .bool true, .int .i64 (stampI ((M.accL n D.t (logS c D.t D.n)).2.old))] ?_
      refine K.a (K.QR.nice (v := .int .u64 (IntKind.u64.wrap (stampI ((M.accL n D.t (logS c D.t D.n)).2.old)))) (by kernel_rfl) (congrArg (Value.int .u64) (IntWalk.u64_in _ (by omega)))) ?_
      refine K.q [.pointer (some ⟨r, 0, none⟩), .pointer (some ⟨r, 0, none⟩), .pointer (some ⟨r, 10, none⟩)] ?_
      refine K.d (.int .u64 D.now) ((hS.blk 1 rfl hgp).cell rfl) ?_
      refine K.a (K.QR.nu64 ((D.now : Int) - (2 : Int)) ((D.now : Int) - (2 : Int)) (by kernel_rfl) (by omega)) ?_
      by_cases h_16 : ((stampI ((M.accL n D.t (logS c D.t D.n)).2.old)) : Int) ≤ ((D.now : Int) - (2 : Int) : Int)
      ·
       refine K.y (((stampI ((M.accL n D.t (logS c D.t D.n)).2.old)) : Int) ≤ ((D.now : Int) - (2 : Int) : Int)) h_16 ?_
       refine K.q [.bool true] (K.z (K.t (K.h (K.s (K.g (K.q [.pointer (some ⟨r, 0, none⟩), .int .u64 ((M.accL n D.t (logS c D.t D.n)).2.old)] ?_))))))
       refine K.l (K.OW.gcall hS [] [0, 1, 2] [.int .u64 ((M.accL n D.t (logS c D.t D.n)).2.old)] (rto_ok _ ((M.accL n D.t (logS c D.t D.n)).2.old) (by first | assumption | (unfold isW; omega))) ?_)
       clear hS; rintro _ _ w ⟨rfl, rfl⟩ hS
       replace hS : K.Sat w0 [l_10, gp, fr] w := hS
       refine K.q [.pointer (some ⟨r, 0, none⟩), .pointer (some ⟨r, 8, none⟩)] ?_
       refine K.l (K.OW.gst 1 [.int .i64 (toI ((M.accL n D.t (logS c D.t D.n)).2.old))] _ hS hgp ?_)
       clear hS; intro w g_17 hg_18 hS
       replace hS : K.Sat w0 [l_10, g_17, fr] w := hS
       refine K.z (K.t (K.s (K.g (K.q [.pointer (some ⟨r, 0, none⟩), .pointer (some ⟨r, 0, none⟩), .pointer (some ⟨r, 6, none⟩)] ?_))))
       refine K.l (K.OW.gst 1 [.int .i64 3] _ hS hg_18 ?_)
       clear hS; intro w g_19 hg_20 hS
       replace hS : K.Sat w0 [l_10, g_19, fr] w := hS
       refine K.z (K.t (K.r (K.u (K.u ?_))))
       have e0 : dRec2 c n D M = (⟨D.t, D.kind, 3, D.n, (toI ((M.accL n D.t (logS c D.t D.n)).2.old)), D.place, D.now, D.holds, D.count, D.pc, D.push⟩, ((M.accL n D.t (logS c D.t D.n)).1)) := if_pos (by unfold recOld dLd; omega)
       have e : dRec c n D M = (⟨D.t, D.kind, 3, D.n, (toI ((M.accL n D.t (logS c D.t D.n)).2.old)), D.place, D.now, D.holds, D.count, D.pc, D.push⟩, ((M.accL n D.t (logS c D.t D.n)).1)) := by unfold dRec; rw [if_neg (by omega), if_pos (by omega), e0] <;> rfl
       refine ⟨.inr rfl, rfl, (.tuple #[]), K.res0 rfl, [g_19, l_10], ?_, hS.pick [1, 0, 2]⟩
       exact ⟨_, _, rfl, rfl, by rw [e]; exact hg_20, by rw [e]; exact x_11⟩
      ·
       refine K.x (((stampI ((M.accL n D.t (logS c D.t D.n)).2.old)) : Int) ≤ ((D.now : Int) - (2 : Int) : Int)) h_16 ?_
       refine K.q [.bool false] (K.z (K.t (K.f (K.k (K.t (K.s (K.g (K.q [.pointer (some ⟨r, 0, none⟩)] ?_))))))))
       refine K.l (K.OW.gcall hS [1] [0, 2] [.pointer (some ⟨r, 0, none⟩)] (dOn_ok _ _ c hc ⟨D.t, D.kind, D.line, D.n, D.slot, D.place, D.now, D.holds, D.count, D.pc, D.push⟩ _ hgp (by show -100 ≤ D.n ∧ D.n ≤ 100; omega)) ?_)
       clear hS; rintro _ _ w ⟨g_21, rfl, rfl, h_22⟩ hS
       replace hS : K.Sat w0 [g_21, l_10, fr] w := hS
       refine K.z (K.t (K.r (K.u ?_)))
       have e0 : dRec2 c n D M = (dOn c D, ((M.accL n D.t (logS c D.t D.n)).1)) := if_neg (by unfold recOld dLd; omega)
       have e : dRec c n D M = (dOn c D, ((M.accL n D.t (logS c D.t D.n)).1)) := by unfold dRec; rw [if_neg (by omega), if_pos (by omega), e0] <;> rfl
       refine ⟨.inr rfl, rfl, (.tuple #[]), K.res0 rfl, [g_21, l_10], ?_, hS.pick [0, 1, 2]⟩
       exact ⟨_, _, rfl, rfl, by rw [e]; exact h_22, by rw [e]; exact x_11⟩
     ·
      refine K.x ((D.now : Int) ≥ (2 : Int)) h_15 ?_
      refine K.q [.bool false, .bool false] (K.n_ (K.n_ (K.n_ (K.n_ (K.n_ (K.n_ (K.n_ (K.n_ (K.q [.bool false] (K.z (K.t (K.f (K.k (K.t ?_))))))))))))))
      refine K.s (K.g (K.q [.pointer (some ⟨r, 0, none⟩)] ?_))
      refine K.l (K.OW.gcall hS [1] [0, 2] [.pointer (some ⟨r, 0, none⟩)] (dOn_ok _ _ c hc ⟨D.t, D.kind, D.line, D.n, D.slot, D.place, D.now, D.holds, D.count, D.pc, D.push⟩ _ hgp (by show -100 ≤ D.n ∧ D.n ≤ 100; omega)) ?_)
      clear hS; rintro _ _ w ⟨g_23, rfl, rfl, h_24⟩ hS
      replace hS : K.Sat w0 [g_23, l_10, fr] w := hS
      refine K.z (K.t (K.r (K.u ?_)))
      have e0 : dRec2 c n D M = (dOn c D, ((M.accL n D.t (logS c D.t D.n)).1)) := if_neg (by unfold recOld dLd; omega)
      have e : dRec c n D M = (dOn c D, ((M.accL n D.t (logS c D.t D.n)).1)) := by unfold dRec; rw [if_neg (by omega), if_pos (by omega), e0] <;> rfl
      refine ⟨.inr rfl, rfl, (.tuple #[]), K.res0 rfl, [g_23, l_10], ?_, hS.pick [0, 1, 2]⟩
      exact ⟨_, _, rfl, rfl, by rw [e]; exact h_24, by rw [e]; exact x_11⟩
    ·
     refine K.x (((stampI ((M.accL n D.t (logS c D.t D.n)).2.old)) : Int) ≥ (0 : Int)) h_14 ?_
     refine K.q [.bool false, .bool false] (K.n_ (K.n_ (K.n_ (K.n_ (K.n_ (K.q [.bool false, .bool false] (K.n_ (K.n_ (K.n_ (K.n_ (K.n_ (K.n_ (K.n_ (K.n_ ?_))))))))))))))
     refine K.q [.bool false] (K.z (K.t (K.f (K.k (K.t (K.s (K.g (K.q [.pointer (some ⟨r, 0, none⟩)] ?_))))))))
     refine K.l (K.OW.gcall hS [1] [0, 2] [.pointer (some ⟨r, 0, none⟩)] (dOn_ok _ _ c hc ⟨D.t, D.kind, D.line, D.n, D.slot, D.place, D.now, D.holds, D.count, D.pc, D.push⟩ _ hgp (by show -100 ≤ D.n ∧ D.n ≤ 100; omega)) ?_)
     clear hS; rintro _ _ w ⟨g_25, rfl, rfl, h_26⟩ hS
     replace hS : K.Sat w0 [g_25, l_10, fr] w := hS
     refine K.z (K.t (K.r (K.u ?_)))
     have e0 : dRec2 c n D M = (dOn c D, ((M.accL n D.t (logS c D.t D.n)).1)) := if_neg (by unfold recOld dLd; omega)
     have e : dRec c n D M = (dOn c D, ((M.accL n D.t (logS c D.t D.n)).1)) := by unfold dRec; rw [if_neg (by omega), if_pos (by omega), e0] <;> rfl
     refine ⟨.inr rfl, rfl, (.tuple #[]), K.res0 rfl, [g_25, l_10], ?_, hS.pick [0, 1, 2]⟩
     exact ⟨_, _, rfl, rfl, by rw [e]; exact h_26, by rw [e]; exact x_11⟩
   ·
    refine K.x (((toI ((M.accL n D.t (logS c D.t D.n)).2.old)) : Int) ≥ (0 : Int)) h_13 ?_
    refine K.q [.bool false] (K.n_ (K.n_ (K.q [.bool false, .bool false] (K.n_ (K.n_ (K.n_ (K.n_ (K.n_ (K.q [.bool false, .bool false] (K.n_ (K.n_ (K.n_ (K.n_ (K.n_ ?_))))))))))))))
    refine K.n_ (K.n_ (K.n_ (K.q [.bool false] (K.z (K.t (K.f (K.k (K.t (K.s (K.g (K.q [.pointer (some ⟨r, 0, none⟩)] ?_)))))))))))
    refine K.l (K.OW.gcall hS [1] [0, 2] [.pointer (some ⟨r, 0, none⟩)] (dOn_ok _ _ c hc ⟨D.t, D.kind, D.line, D.n, D.slot, D.place, D.now, D.holds, D.count, D.pc, D.push⟩ _ hgp (by show -100 ≤ D.n ∧ D.n ≤ 100; omega)) ?_)
    clear hS; rintro _ _ w ⟨g_27, rfl, rfl, h_28⟩ hS
    replace hS : K.Sat w0 [g_27, l_10, fr] w := hS
    refine K.z (K.t (K.r (K.u ?_)))
    have e0 : dRec2 c n D M = (dOn c D, ((M.accL n D.t (logS c D.t D.n)).1)) := if_neg (by unfold recOld dLd; omega)
    have e : dRec c n D M = (dOn c D, ((M.accL n D.t (logS c D.t D.n)).1)) := by unfold dRec; rw [if_neg (by omega), if_pos (by omega), e0] <;> rfl
    refine ⟨.inr rfl, rfl, (.tuple #[]), K.res0 rfl, [g_27, l_10], ?_, hS.pick [0, 1, 2]⟩
    exact ⟨_, _, rfl, rfl, by rw [e]; exact h_28, by rw [e]; exact x_11⟩
  ·
   refine K.xe (D.line : Int) (2 : Int) h_9 ?_
   refine K.z (K.t (K.f (K.k (K.t (K.s (K.s (K.g (K.q [.pointer (some ⟨r, 0, none⟩), .pointer (some ⟨r, 0, none⟩), .pointer (some ⟨r, 6, none⟩)] ?_))))))))
   refine K.d (.int .i64 D.line) ((hS.blk 0 rfl hgp).cell rfl) ?_
   by_cases h_29 : (D.line : Int) = (3 : Int)
   ·
    refine K.ye (D.line : Int) (3 : Int) h_29 ?_
    refine K.z (K.t (K.h (K.s ?_)))
    refine K.KW.gdrawn [0] hS (by kernel_rfl) ?_
    clear hS; intro w hS
    refine K.p 0 rfl (.pointer (some ⟨pm, 0, none⟩)) (hS.pick [0]) ?_
    refine K.p 1 rfl (.pointer (some ⟨r, 0, none⟩)) (hS.pick [0]) ?_
    refine K.p 2 rfl (.pointer (some ⟨r, 0, none⟩)) (hS.pick [0]) ?_
    refine K.p 3 rfl (.pointer (some ⟨r, 4, none⟩)) (hS.pick [0]) ?_
    refine K.o_ 4 rfl (.int .i64 D.t) (fun w hS => ((hS.blk 0 rfl hgp).cell rfl)) (hS.pick [0]) ?_
    refine K.p 5 rfl (.pointer (some ⟨r, 0, none⟩)) (hS.pick [0]) ?_
    refine K.p 6 rfl (.pointer (some ⟨r, 0, none⟩)) (hS.pick [0]) ?_
    refine K.p 7 rfl (.pointer (some ⟨r, 0, none⟩)) (hS.pick [0]) ?_
    refine K.m 8 rfl (fun w hS => K.QR.ldN [.int .i64 c.th, .int .i64 c.sl, .int .i64 c.lo, .int .i64 c.bu] rfl rfl (by kernel_rfl) (by kernel_rfl) (K.cells (K.cl ((hS.blk 0 rfl hgp).cell rfl) (K.cl ((hS.blk 0 rfl hgp).cell rfl) (K.cl ((hS.blk 0 rfl hgp).cell rfl) (K.cl ((hS.blk 0 rfl hgp).cell rfl) K.cl0)))))) (hS.pick [0]) ?_
    refine K.p 9 rfl (.pointer (some ⟨r, 0, none⟩)) (hS.pick [0]) ?_
    refine K.p 10 rfl (.pointer (some ⟨r, 0, none⟩)) (hS.pick [0]) ?_
    refine K.p 11 rfl (.pointer (some ⟨r, 4, none⟩)) (hS.pick [0]) ?_
    refine K.o_ 12 rfl (.int .i64 D.t) (fun w hS => ((hS.blk 0 rfl hgp).cell rfl)) (hS.pick [0]) ?_
    refine K.b 13 rfl (.pointer (some ⟨r, 0, none⟩)) (hS.pick [0]) ?_
    refine K.b 14 rfl (.pointer (some ⟨r, 0, none⟩)) (hS.pick [0]) ?_
    refine K.b 15 rfl (.pointer (some ⟨r, 7, none⟩)) (hS.pick [0]) ?_
    refine K.c 16 rfl (K.QR.ld1 (v := .int .i64 D.n) rfl rfl (by kernel_rfl) ((hS.blk 0 rfl hgp).cell rfl)) (hS.pick [0]) ?_
    refine K.DW.l 17 rfl (by kernel_rfl) rfl (K.OW.gcall hS [] [0, 1, 2] [.agg #[.int .i64 c.th, .int .i64 c.sl, .int .i64 c.lo, .int .i64 c.bu], .int .i64 D.t, .int .i64 D.n] (rlog_ok _ c (by first | assumption | (unfold cfgOk; decide)) D.t D.n) ?_)
    clear hS; rintro _ _ w ⟨rfl, rfl⟩ hS
    replace hS : K.Sat w0 [gp, l, fr] w := hS
    refine ⟨.inl (hS.pick [0]), ?_⟩
    refine K.DW.l 18 rfl (by kernel_rfl) rfl (K.OW.gcall hS [1] [0, 2] [.pointer (some ⟨pm, 0, none⟩), .int .i64 2, .int .i64 D.t, .int .i64 (logS c D.t D.n), .int .u64 0, .int .u64 0] (rmDo2_ok _ _ _ _ _ _ _ x D.t (logS c D.t D.n) (0 : Int) (0 : Int) (by omega) (by first | omega | assumption | exact log_int (by assumption) _ _ | exact aft_int (by assumption) _ | exact ann_int (by assumption) _ (by omega))) ?_)
    clear hS; rintro _ _ w ⟨l_30, rfl, rfl, x_31⟩ hS
    replace hS : K.Sat w0 [l_30, gp, fr] w := hS
    refine ⟨.inl (hS.pick [1]), ?_⟩
    refine K.DW.done (by kernel_rfl) ?_
    refine K.t (K.s (K.g (K.q [.pointer (some ⟨r, 0, none⟩), .pointer (some ⟨r, 0, none⟩), .pointer (some ⟨r, 0, none⟩), .pointer (some ⟨r, 8, none⟩)] ?_)))
    refine K.d (.int .i64 D.slot) ((hS.blk 1 rfl hgp).cell rfl) ?_
    refine K.q [.pointer (some ⟨r, 0, none⟩), .pointer (some ⟨r, 11, none⟩)] ?_
    refine K.l (K.OW.gst 1 [.int .i64 D.slot] _ hS hgp ?_)
    clear hS; intro w g_32 hg_33 hS
    replace hS : K.Sat w0 [l_30, g_32, fr] w := hS
    refine K.z (K.t (K.s ?_))
    refine K.KW.gdrawn [1] hS (by kernel_rfl) ?_
    clear hS; intro w hS
    refine K.p 0 rfl (.pointer (some ⟨r, 0, none⟩)) (hS.pick [1]) ?_
    refine K.p 1 rfl (.pointer (some ⟨r, 0, none⟩)) (hS.pick [1]) ?_
    refine K.p 2 rfl (.pointer (some ⟨r, 0, none⟩)) (hS.pick [1]) ?_
    refine K.p 3 rfl (.pointer (some ⟨r, 0, none⟩)) (hS.pick [1]) ?_
    refine K.m 4 rfl (fun w hS => K.QR.ldN [.int .i64 c.th, .int .i64 c.sl, .int .i64 c.lo, .int .i64 c.bu] rfl rfl (by kernel_rfl) (by kernel_rfl) (K.cells (K.cl ((hS.blk 0 rfl hg_33).cell rfl) (K.cl ((hS.blk 0 rfl hg_33).cell rfl) (K.cl ((hS.blk 0 rfl hg_33).cell rfl) (K.cl ((hS.blk 0 rfl hg_33).cell rfl) K.cl0)))))) (hS.pick [1]) ?_
    refine K.p 5 rfl (.pointer (some ⟨r, 0, none⟩)) (hS.pick [1]) ?_
    refine K.p 6 rfl (.pointer (some ⟨r, 0, none⟩)) (hS.pick [1]) ?_
    refine K.p 7 rfl (.pointer (some ⟨r, 4, none⟩)) (hS.pick [1]) ?_
    refine K.o_ 8 rfl (.int .i64 D.t) (fun w hS => ((hS.blk 0 rfl hg_33).cell rfl)) (hS.pick [1]) ?_
    refine K.b 9 rfl (.pointer (some ⟨r, 0, none⟩)) (hS.pick [1]) ?_
    refine K.b 10 rfl (.pointer (some ⟨r, 0, none⟩)) (hS.pick [1]) ?_
    refine K.b 11 rfl (.pointer (some ⟨r, 8, none⟩)) (hS.pick [1]) ?_
    refine K.c 12 rfl (K.QR.ld1 (v := .int .i64 D.slot) rfl rfl (by kernel_rfl) ((hS.blk 1 rfl hg_33).cell rfl)) (hS.pick [1]) ?_
    refine K.c 13 rfl (K.QR.bd [(0, .agg #[.int .i64 c.th, .int .i64 c.sl, .int .i64 c.lo, .int .i64 c.bu]), (1, .int .i64 D.t), (2, .int .i64 1), (4, .int .i64 D.slot)] [.int .i64 c.th, .int .i64 c.sl, .int .i64 c.lo, .int .i64 c.bu, .int .i64 D.t, .int .i64 1, .int .u64 0, .int .i64 D.slot] rfl rfl (by kernel_rfl)) (hS.pick [1]) ?_
    refine K.b 14 rfl (.pointer (some ⟨r, 0, none⟩)) (hS.pick [1]) ?_
    refine K.b 15 rfl (.pointer (some ⟨r, 13, none⟩)) (hS.pick [1]) ?_
    refine K.DW.l 16 rfl (by kernel_rfl) rfl (K.OW.gst 1 [.int .i64 c.th, .int .i64 c.sl, .int .i64 c.lo, .int .i64 c.bu, .int .i64 D.t, .int .i64 1, .int .u64 0, .int .i64 D.slot] _ hS hg_33 ?_)
    clear hS; intro w g_34 hg_35 hS
    replace hS : K.Sat w0 [l_30, g_34, fr] w := hS
    refine ⟨.inr (by kernel_rfl), ?_⟩
    refine K.DW.done (by kernel_rfl) ?_
    refine K.t (K.s (K.g (K.q [.pointer (some ⟨r, 0, none⟩), .pointer (some ⟨r, 0, none⟩), .pointer (some ⟨r, 6, none⟩)] ?_)))
    refine K.l (K.OW.gst 1 [.int .i64 4] _ hS hg_35 ?_)
    clear hS; intro w g_36 hg_37 hS
    replace hS : K.Sat w0 [l_30, g_36, fr] w := hS
    refine K.z (K.t (K.r (K.u ?_)))
    have e : dRec c n D M = (⟨D.t, D.kind, 4, D.n, D.slot, D.place, D.now, D.slot, D.count, c, ⟨D.t, 1, 0, D.slot⟩⟩, ((M.accS n D.t (logS c D.t D.n) (0 : Int)).1)) := by unfold dRec; rw [if_neg (by omega), if_neg (by omega), if_pos (by omega)] <;> rfl
    refine ⟨.inr rfl, rfl, (.tuple #[]), K.res0 rfl, [g_36, l_30], ?_, hS.pick [1, 0, 2]⟩
    exact ⟨_, _, rfl, rfl, by rw [e]; exact hg_37, by rw [e]; exact x_31⟩
   ·
    refine K.xe (D.line : Int) (3 : Int) h_29 ?_
    refine K.z (K.t (K.f (K.k (K.t (K.s (K.g (K.q [.pointer (some ⟨r, 0, none⟩), .pointer (some ⟨r, 0, none⟩), .pointer (some ⟨r, 13, none⟩), .pointer (some ⟨pm, 0, none⟩)] ?_)))))))
    refine K.l (K.OW.gcall hS [0, 1] [2] [.pointer (some ⟨r, 13, none⟩), .pointer (some ⟨pm, 0, none⟩)] (dPush_ok _ _ _ _ _ _ c hc D M _ _ hgp x (by assumption) hD0 (hDpc (by omega))) ?_)
    clear hS; rintro _ _ w ⟨g_38, l_39, rfl, rfl, h_40, x_41⟩ hS
    replace hS : K.Sat w0 [g_38, l_39, fr] w := hS
    refine K.z (K.t (K.s (K.g (K.q [.pointer (some ⟨r, 0, none⟩), .pointer (some ⟨r, 0, none⟩), .pointer (some ⟨r, 13, none⟩), .pointer (some ⟨r, 18, none⟩)] ?_))))
    refine K.d (.int .i64 ((dPush c n D.push M).1.line)) ((hS.blk 0 rfl h_40).cell rfl) ?_
    by_cases h_42 : ((dPush c n D.push M).1.line : Int) = (0 : Int)
    ·
     refine K.ye ((dPush c n D.push M).1.line : Int) (0 : Int) h_42 ?_
     refine K.z (K.t (K.h (K.s (K.g (K.q [.pointer (some ⟨r, 0, none⟩), .pointer (some ⟨r, 0, none⟩), .pointer (some ⟨r, 11, none⟩)] ?_)))))
     refine K.l (K.OW.gst 0 [.int .i64 (-1)] _ hS h_40 ?_)
     clear hS; intro w g_43 hg_44 hS
     replace hS : K.Sat w0 [g_43, l_39, fr] w := hS
     refine K.z (K.t (K.s (K.g (K.q [.pointer (some ⟨r, 0, none⟩), .pointer (some ⟨r, 0, none⟩), .pointer (some ⟨r, 0, none⟩), .pointer (some ⟨r, 12, none⟩)] ?_))))
     refine K.d (.int .i64 D.count) ((hS.blk 0 rfl hg_44).cell rfl) ?_
     refine K.a (K.QR.n64 ((D.count : Int) + (1 : Int)) ((D.count : Int) + (1 : Int)) (by kernel_rfl) (by omega)) ?_
     refine K.q [.pointer (some ⟨r, 0, none⟩), .pointer (some ⟨r, 12, none⟩)] ?_
     refine K.l (K.OW.gst 0 [.int .i64 ((D.count : Int) + (1 : Int))] _ hS hg_44 ?_)
     clear hS; intro w g_45 hg_46 hS
     replace hS : K.Sat w0 [g_45, l_39, fr] w := hS
     refine K.z (K.t (K.s (K.g (K.q [.pointer (some ⟨r, 0, none⟩), .pointer (some ⟨r, 0, none⟩), .pointer (some ⟨r, 6, none⟩)] ?_))))
     refine K.l (K.OW.gst 0 [.int .i64 2] _ hS hg_46 ?_)
     clear hS; intro w g_47 hg_48 hS
     replace hS : K.Sat w0 [g_47, l_39, fr] w := hS
     refine K.z (K.t (K.g (K.q [.pointer (some ⟨r, 0, none⟩)] ?_)))
     refine K.l (K.OW.gcall hS [0] [1, 2] [.pointer (some ⟨r, 0, none⟩)] (dOn_ok _ _ c hc ⟨D.t, D.kind, 2, D.n, D.slot, D.place, D.now, (-1), (D.count : Int) + (1 : Int), c, (dPush c n D.push M).1⟩ _ hg_48 (by show -100 ≤ D.n ∧ D.n ≤ 100; omega)) ?_)
     clear hS; rintro _ _ w ⟨g_49, rfl, rfl, h_50⟩ hS
     replace hS : K.Sat w0 [g_49, l_39, fr] w := hS
     refine K.z ?_
     have hpcc : D.pc = c := hDpc (by omega)
     have e : dRec c n D M = (dOn c ⟨D.t, D.kind, 2, D.n, D.slot, D.place, D.now, -1, D.count + 1, D.pc, (dPush c n D.push M).1⟩, (dPush c n D.push M).2) := by unfold dRec; rw [if_neg (by omega), if_neg (by omega), if_neg (by omega), if_pos (by omega)] <;> rfl
     refine ⟨.inl rfl, rfl, (.tuple #[]), K.res0 rfl, [g_49, l_39], ?_, hS.pick [0, 1, 2]⟩
     exact ⟨_, _, rfl, rfl, by rw [e, hpcc]; exact h_50, by rw [e]; exact x_41⟩
    ·
     refine K.xe ((dPush c n D.push M).1.line : Int) (0 : Int) h_42 ?_
     refine K.z (K.t (K.f (K.k ?_)))
     have hpcc : D.pc = c := hDpc (by omega)
     have e : dRec c n D M = (dPut D (dPush c n D.push M).1, (dPush c n D.push M).2) := by unfold dRec; rw [if_neg (by omega), if_neg (by omega), if_neg (by omega), if_neg (by omega)] <;> rfl
     refine ⟨.inl rfl, rfl, (.tuple #[]), K.res0 rfl, [g_38, l_39], ?_, hS.pick [0, 1, 2]⟩
     exact ⟨_, _, rfl, rfl, by rw [e]; unfold dPut; rw [hpcc]; exact h_40, by rw [e]; exact x_41⟩
set_option maxHeartbeats 1000000 in
set_option maxRecDepth 100000 in
theorem dStep_ok (w0 : World) (r pm q n t : Nat) (c : Cfg) (hc : cfgOk c) (D : DM) (M : MemM) (gp l : K.Cs) (hgp : gp = dmPt r c D) (x : RMemAt l pm q n t M) (hM : M.good) (hD : D.good c) :
  K.GC Tryz.prog w0 24 #[.pointer (some ⟨r, 0, none⟩), .pointer (some ⟨pm, 0, none⟩)] [gp, l] (fun v post => ∃ gp' l', v = .tuple #[] ∧ post = [gp', l'] ∧ gp' = dmPt r c (dStep c n t D M).1 ∧ RMemAt l' pm q n t (dStep c n t D M).2) := by
 have hD0 := hD
 obtain ⟨hDt, hDn, hDs, hDw, hDc, hDpt, hDps, hDpw, hDnb, hDpc⟩ := hD
 have hcc := hc
 unfold cfgOk at hcc
 have hcv := cv64_int D.now
 have hr1 := toI_ge2
 refine K.GC.mk (n := 110) Tryz.func24 rfl rfl [.pointer (some ⟨r, 0, none⟩), .pointer (some ⟨pm, 0, none⟩)] rfl rfl ?_
 intro fr w hS
 replace hS : K.Sat w0 [gp, l, fr] w := hS
 refine K.s (K.s (K.g (K.q [.pointer (some ⟨r, 0, none⟩), .pointer (some ⟨r, 0, none⟩), .pointer (some ⟨r, 6, none⟩)] ?_)))
 refine K.d (.int .i64 D.line) ((hS.blk 0 rfl hgp).cell rfl) ?_
 by_cases h_1 : (D.line : Int) = (0 : Int)
 ·
  refine K.ye (D.line : Int) (0 : Int) h_1 ?_
  refine K.z (K.t (K.h (K.r (K.u ?_))))
  have e : dStep c n t D M = (D, M) := by unfold dStep; rw [if_pos (by omega)] <;> rfl
  refine ⟨.inr rfl, rfl, (.tuple #[]), K.res0 rfl, [gp, l], ?_, hS.pick [0, 1, 2]⟩
  exact ⟨_, _, rfl, rfl, by rw [e]; exact hgp, by rw [e]; exact x⟩
 ·
  refine K.xe (D.line : Int) (0 : Int) h_1 ?_
  refine K.z (K.t (K.f (K.k (K.t (K.s (K.s (K.g (K.q [.pointer (some ⟨r, 0, none⟩), .pointer (some ⟨r, 0, none⟩), .pointer (some ⟨r, 5, none⟩)] ?_))))))))
  refine K.d (.int .i64 D.kind) ((hS.blk 0 rfl hgp).cell rfl) ?_
  by_cases h_2 : (D.kind : Int) = (3 : Int)
  ·
   refine K.ye (D.kind : Int) (3 : Int) h_2 ?_
   refine K.z (K.t (K.h (K.s (K.g (K.q [.pointer (some ⟨r, 0, none⟩), .pointer (some ⟨pm, 0, none⟩)] ?_)))))
   refine K.l (K.OW.gcall hS [0, 1] [2] [.pointer (some ⟨r, 0, none⟩), .pointer (some ⟨pm, 0, none⟩)] (dRec_ok _ _ _ _ _ _ c hc D M _ _ hgp x (by assumption) hD0 (by omega) (by omega)) ?_)
   clear hS; rintro _ _ w ⟨g_3, l_4, rfl, rfl, h_5, x_6⟩ hS
   replace hS : K.Sat w0 [g_3, l_4, fr] w := hS
   refine K.z (K.t (K.r (K.u ?_)))
   have e : dStep c n t D M = dRec c n D M := by unfold dStep; rw [if_neg (by omega), if_pos (by omega)] <;> rfl
   refine ⟨.inr rfl, rfl, (.tuple #[]), K.res0 rfl, [g_3, l_4], ?_, hS.pick [0, 1, 2]⟩
   exact ⟨_, _, rfl, rfl, by rw [e]; exact h_5, by rw [e]; exact x_6⟩
  ·
   refine K.xe (D.kind : Int) (3 : Int) h_2 ?_
   refine K.z (K.t (K.f (K.k (K.t (K.s (K.s (K.g (K.q [.pointer (some ⟨r, 0, none⟩), .pointer (some ⟨r, 0, none⟩), .pointer (some ⟨r, 5, none⟩)] ?_))))))))
   refine K.d (.int .i64 D.kind) ((hS.blk 0 rfl hgp).cell rfl) ?_
   by_cases h_7 : (D.kind : Int) = (1 : Int)
   ·
    refine K.ye (D.kind : Int) (1 : Int) h_7 ?_
    refine K.z (K.t (K.h (K.s ?_)))
    refine K.KW.gdrawn [0] hS (by kernel_rfl) ?_
    clear hS; intro w hS
    refine K.p 0 rfl (.pointer (some ⟨pm, 0, none⟩)) (hS.pick [0]) ?_
    refine K.p 1 rfl (.pointer (some ⟨r, 0, none⟩)) (hS.pick [0]) ?_
    refine K.p 2 rfl (.pointer (some ⟨r, 0, none⟩)) (hS.pick [0]) ?_
    refine K.p 3 rfl (.pointer (some ⟨r, 4, none⟩)) (hS.pick [0]) ?_
    refine K.o_ 4 rfl (.int .i64 D.t) (fun w hS => ((hS.blk 0 rfl hgp).cell rfl)) (hS.pick [0]) ?_
    refine K.p 5 rfl (.pointer (some ⟨r, 0, none⟩)) (hS.pick [0]) ?_
    refine K.p 6 rfl (.pointer (some ⟨r, 0, none⟩)) (hS.pick [0]) ?_
    refine K.p 7 rfl (.pointer (some ⟨r, 0, none⟩)) (hS.pick [0]) ?_
    refine K.m 8 rfl (fun w hS => K.QR.ldN [.int .i64 c.th, .int .i64 c.sl, .int .i64 c.lo, .int .i64 c.bu] rfl rfl (by kernel_rfl) (by kernel_rfl) (K.cells (K.cl ((hS.blk 0 rfl hgp).cell rfl) (K.cl ((hS.blk 0 rfl hgp).cell rfl) (K.cl ((hS.blk 0 rfl hgp).cell rfl) (K.cl ((hS.blk 0 rfl hgp).cell rfl) K.cl0)))))) (hS.pick [0]) ?_
    refine K.p 9 rfl (.pointer (some ⟨r, 0, none⟩)) (hS.pick [0]) ?_
    refine K.p 10 rfl (.pointer (some ⟨r, 0, none⟩)) (hS.pick [0]) ?_
    refine K.p 11 rfl (.pointer (some ⟨r, 4, none⟩)) (hS.pick [0]) ?_
    refine K.o_ 12 rfl (.int .i64 D.t) (fun w hS => ((hS.blk 0 rfl hgp).cell rfl)) (hS.pick [0]) ?_
    refine K.b 13 rfl (.pointer (some ⟨r, 0, none⟩)) (hS.pick [0]) ?_
    refine K.b 14 rfl (.pointer (some ⟨r, 0, none⟩)) (hS.pick [0]) ?_
    refine K.b 15 rfl (.pointer (some ⟨r, 7, none⟩)) (hS.pick [0]) ?_
    refine K.c 16 rfl (K.QR.ld1 (v := .int .i64 D.n) rfl rfl (by kernel_rfl) ((hS.blk 0 rfl hgp).cell rfl)) (hS.pick [0]) ?_
    refine K.DW.l 17 rfl (by kernel_rfl) rfl (K.OW.gcall hS [] [0, 1, 2] [.agg #[.int .i64 c.th, .int .i64 c.sl, .int .i64 c.lo, .int .i64 c.bu], .int .i64 D.t, .int .i64 D.n] (rlog_ok _ c (by first | assumption | (unfold cfgOk; decide)) D.t D.n) ?_)
    clear hS; rintro _ _ w ⟨rfl, rfl⟩ hS
    replace hS : K.Sat w0 [gp, l, fr] w := hS
    refine ⟨.inl (hS.pick [0]), ?_⟩
    refine K.DW.l 18 rfl (by kernel_rfl) rfl (K.OW.gcall hS [1] [0, 2] [.pointer (some ⟨pm, 0, none⟩), .int .i64 2, .int .i64 D.t, .int .i64 (logS c D.t D.n), .int .u64 0, .int .u64 0] (rmDo2_ok _ _ _ _ _ _ _ x D.t (logS c D.t D.n) (0 : Int) (0 : Int) (by omega) (by first | omega | assumption | exact log_int (by assumption) _ _ | exact aft_int (by assumption) _ | exact ann_int (by assumption) _ (by omega))) ?_)
    clear hS; rintro _ _ w ⟨l_8, rfl, rfl, x_9⟩ hS
    replace hS : K.Sat w0 [l_8, gp, fr] w := hS
    refine ⟨.inl (hS.pick [1]), ?_⟩
    refine K.DW.done (by kernel_rfl) ?_
    refine K.t (K.s (K.g (K.q [.pointer (some ⟨r, 0, none⟩), .pointer (some ⟨r, 0, none⟩), .pointer (some ⟨r, 6, none⟩)] ?_)))
    refine K.l (K.OW.gst 1 [.int .i64 0] _ hS hgp ?_)
    clear hS; intro w g_10 hg_11 hS
    replace hS : K.Sat w0 [l_8, g_10, fr] w := hS
    refine K.z (K.t (K.r (K.u ?_)))
    have e : dStep c n t D M = (⟨D.t, D.kind, 0, D.n, D.slot, D.place, D.now, D.holds, D.count, D.pc, D.push⟩, ((M.accS n D.t (logS c D.t D.n) (0 : Int)).1)) := by unfold dStep; rw [if_neg (by omega), if_neg (by omega), if_pos (by omega)] <;> rfl
    refine ⟨.inr rfl, rfl, (.tuple #[]), K.res0 rfl, [g_10, l_8], ?_, hS.pick [1, 0, 2]⟩
    exact ⟨_, _, rfl, rfl, by rw [e]; exact hg_11, by rw [e]; exact x_9⟩
   ·
    refine K.xe (D.kind : Int) (1 : Int) h_7 ?_
    refine K.z (K.t (K.f (K.k (K.t (K.s (K.s (K.g (K.q [.pointer (some ⟨r, 0, none⟩), .pointer (some ⟨r, 0, none⟩), .pointer (some ⟨r, 6, none⟩)] ?_))))))))
    refine K.d (.int .i64 D.line) ((hS.blk 0 rfl hgp).cell rfl) ?_
    by_cases h_12 : (D.line : Int) ≥ (3 : Int)
    ·
     refine K.y ((D.line : Int) ≥ (3 : Int)) h_12 ?_
     refine K.z (K.t (K.h (K.s (K.g (K.q [.pointer (some ⟨r, 0, none⟩), .pointer (some ⟨pm, 0, none⟩)] ?_)))))
     refine K.l (K.OW.gcall hS [0, 1] [2] [.pointer (some ⟨r, 0, none⟩), .pointer (some ⟨pm, 0, none⟩)] (dLast_ok _ _ _ _ _ _ c hc D M _ _ hgp x (by assumption) hD0) ?_)
     clear hS; rintro _ _ w ⟨g_13, l_14, rfl, rfl, h_15, x_16⟩ hS
     replace hS : K.Sat w0 [g_13, l_14, fr] w := hS
     refine K.z (K.t (K.r (K.u ?_)))
     have e : dStep c n t D M = dLast c n t D M := by unfold dStep; rw [if_neg (by omega), if_neg (by omega), if_neg (by omega), if_pos (by omega)] <;> rfl
     refine ⟨.inr rfl, rfl, (.tuple #[]), K.res0 rfl, [g_13, l_14], ?_, hS.pick [0, 1, 2]⟩
     exact ⟨_, _, rfl, rfl, by rw [e]; exact h_15, by rw [e]; exact x_16⟩
    ·
     refine K.x ((D.line : Int) ≥ (3 : Int)) h_12 ?_
     refine K.z (K.t (K.f (K.k (K.t (K.s (K.s (K.g (K.q [.pointer (some ⟨r, 0, none⟩), .pointer (some ⟨r, 0, none⟩), .pointer (some ⟨r, 5, none⟩)] ?_))))))))
     refine K.d (.int .i64 D.kind) ((hS.blk 0 rfl hgp).cell rfl) ?_
     by_cases h_17 : (D.kind : Int) = (0 : Int)
     ·
      refine K.ye (D.kind : Int) (0 : Int) h_17 ?_
      refine K.z (K.t (K.h (K.s (K.g (K.q [.pointer (some ⟨r, 0, none⟩), .pointer (some ⟨pm, 0, none⟩)] ?_)))))
      refine K.l (K.OW.gcall hS [0, 1] [2] [.pointer (some ⟨r, 0, none⟩), .pointer (some ⟨pm, 0, none⟩)] (dRes_ok _ _ _ _ _ _ c hc D M _ _ hgp x (by assumption) hD0 (by omega)) ?_)
      clear hS; rintro _ _ w ⟨g_18, l_19, rfl, rfl, h_20, x_21⟩ hS
      replace hS : K.Sat w0 [g_18, l_19, fr] w := hS
      refine K.z (K.t (K.r (K.u ?_)))
      have e : dStep c n t D M = dRes c n D M := by unfold dStep; rw [if_neg (by omega), if_neg (by omega), if_neg (by omega), if_neg (by omega), if_pos (by omega)] <;> rfl
      refine ⟨.inr rfl, rfl, (.tuple #[]), K.res0 rfl, [g_18, l_19], ?_, hS.pick [0, 1, 2]⟩
      exact ⟨_, _, rfl, rfl, by rw [e]; exact h_20, by rw [e]; exact x_21⟩
     ·
      refine K.xe (D.kind : Int) (0 : Int) h_17 ?_
      refine K.z (K.t (K.f (K.k (K.t (K.s (K.s (K.g (K.q [.pointer (some ⟨r, 0, none⟩), .pointer (some ⟨r, 0, none⟩), .pointer (some ⟨r, 6, none⟩)] ?_))))))))
      refine K.d (.int .i64 D.line) ((hS.blk 0 rfl hgp).cell rfl) ?_
      by_cases h_22 : (D.line : Int) = (1 : Int)
      ·
       refine K.ye (D.line : Int) (1 : Int) h_22 ?_
       refine K.z (K.t (K.h (K.s (K.g (K.q [.pointer (some ⟨r, 0, none⟩), .pointer (some ⟨pm, 0, none⟩), .pointer (some ⟨r, 0, none⟩), .pointer (some ⟨r, 0, none⟩), .pointer (some ⟨r, 4, none⟩)] ?_)))))
       refine K.d (.int .i64 D.t) ((hS.blk 0 rfl hgp).cell rfl) ?_
       refine K.l (K.OW.gcall hS [1] [0, 2] [.pointer (some ⟨pm, 0, none⟩), .int .i64 1, .int .i64 D.t, .int .i64 (-1), .int .u64 0, .int .u64 0] (rmDo1_ok _ _ _ _ _ _ _ x D.t ((-1) : Int) (0 : Int) (0 : Int) (by omega) (by first | omega | assumption | exact log_int (by assumption) _ _ | exact aft_int (by assumption) _ | exact ann_int (by assumption) _ (by omega))) ?_)
       clear hS; rintro _ _ w ⟨l_23, rfl, rfl, x_24⟩ hS
       replace hS : K.Sat w0 [l_23, gp, fr] w := hS
       have hw_25 : isW (M.accL n D.t ((-1) : Int)).2.old := (accL_good (by assumption)).2
       refine K.q [.int .u64 ((M.accL n D.t ((-1) : Int)).2.old), .pointer (some ⟨r, 0, none⟩), .pointer (some ⟨r, 10, none⟩)] ?_
       refine K.l (K.OW.gst 1 [.int .u64 ((M.accL n D.t ((-1) : Int)).2.old)] _ hS hgp ?_)
       clear hS; intro w g_26 hg_27 hS
       replace hS : K.Sat w0 [l_23, g_26, fr] w := hS
       refine K.z (K.t (K.s (K.g (K.q [.pointer (some ⟨r, 0, none⟩), .pointer (some ⟨r, 0, none⟩), .pointer (some ⟨r, 6, none⟩)] ?_))))
       refine K.l (K.OW.gst 1 [.int .i64 2] _ hS hg_27 ?_)
       clear hS; intro w g_28 hg_29 hS
       replace hS : K.Sat w0 [l_23, g_28, fr] w := hS
       refine K.z (K.t (K.r (K.u ?_)))
       have e : dStep c n t D M = (⟨D.t, D.kind, 2, D.n, D.slot, D.place, (M.accL n D.t ((-1) : Int)).2.old, D.holds, D.count, D.pc, D.push⟩, ((M.accL n D.t ((-1) : Int)).1)) := by unfold dStep; rw [if_neg (by omega), if_neg (by omega), if_neg (by omega), if_neg (by omega), if_neg (by omega), if_pos (by omega)] <;> rfl
       refine ⟨.inr rfl, rfl, (.tuple #[]), K.res0 rfl, [g_28, l_23], ?_, hS.pick [1, 0, 2]⟩
       exact ⟨_, _, rfl, rfl, by rw [e]; exact hg_29, by rw [e]; exact x_24⟩
      ·
       refine K.xe (D.line : Int) (1 : Int) h_22 ?_
       refine K.z (K.t (K.f (K.k (K.t (K.s ?_)))))
       refine K.KW.gdrawn [0] hS (by kernel_rfl) ?_
       clear hS; intro w hS
       refine K.p 0 rfl (.pointer (some ⟨pm, 0, none⟩)) (hS.pick [0]) ?_
       refine K.p 1 rfl (.pointer (some ⟨r, 0, none⟩)) (hS.pick [0]) ?_
       refine K.p 2 rfl (.pointer (some ⟨r, 0, none⟩)) (hS.pick [0]) ?_
       refine K.p 3 rfl (.pointer (some ⟨r, 4, none⟩)) (hS.pick [0]) ?_
       refine K.o_ 4 rfl (.int .i64 D.t) (fun w hS => ((hS.blk 0 rfl hgp).cell rfl)) (hS.pick [0]) ?_
       refine K.p 5 rfl (.pointer (some ⟨r, 0, none⟩)) (hS.pick [0]) ?_
       refine K.p 6 rfl (.pointer (some ⟨r, 0, none⟩)) (hS.pick [0]) ?_
       refine K.p 7 rfl (.pointer (some ⟨r, 0, none⟩)) (hS.pick [0]) ?_
       refine K.m 8 rfl (fun w hS => K.QR.ldN [.int .i64 c.th, .int .i64 c.sl, .int .i64 c.lo, .int .i64 c.bu] rfl rfl (by kernel_rfl) (by kernel_rfl) (K.cells (K.cl ((hS.blk 0 rfl hgp).cell rfl) (K.cl ((hS.blk 0 rfl hgp).cell rfl) (K.cl ((hS.blk 0 rfl hgp).cell rfl) (K.cl ((hS.blk 0 rfl hgp).cell rfl) K.cl0)))))) (hS.pick [0]) ?_
       refine K.p 9 rfl (.pointer (some ⟨r, 0, none⟩)) (hS.pick [0]) ?_
       refine K.p 10 rfl (.pointer (some ⟨r, 0, none⟩)) (hS.pick [0]) ?_
       refine K.p 11 rfl (.pointer (some ⟨r, 4, none⟩)) (hS.pick [0]) ?_
       refine K.o_ 12 rfl (.int .i64 D.t) (fun w hS => ((hS.blk 0 rfl hgp).cell rfl)) (hS.pick [0]) ?_
       refine K.p 13 rfl (.pointer (some ⟨r, 0, none⟩)) (hS.pick [0]) ?_
       refine K.p 14 rfl (.pointer (some ⟨r, 0, none⟩)) (hS.pick [0]) ?_
       refine K.p 15 rfl (.pointer (some ⟨r, 7, none⟩)) (hS.pick [0]) ?_
       refine K.o_ 16 rfl (.int .i64 D.n) (fun w hS => ((hS.blk 0 rfl hgp).cell rfl)) (hS.pick [0]) ?_
       refine K.p 18 rfl (.pointer (some ⟨r, 0, none⟩)) (hS.pick [0]) ?_
       refine K.p 19 rfl (.pointer (some ⟨r, 0, none⟩)) (hS.pick [0]) ?_
       refine K.p 20 rfl (.pointer (some ⟨r, 8, none⟩)) (hS.pick [0]) ?_
       refine K.o_ 21 rfl (.int .i64 D.slot) (fun w hS => ((hS.blk 0 rfl hgp).cell rfl)) (hS.pick [0]) ?_
       refine K.p 22 rfl (.pointer (some ⟨r, 0, none⟩)) (hS.pick [0]) ?_
       refine K.p 23 rfl (.pointer (some ⟨r, 0, none⟩)) (hS.pick [0]) ?_
       refine K.p 24 rfl (.pointer (some ⟨r, 10, none⟩)) (hS.pick [0]) ?_
       refine K.o_ 25 rfl (.int .u64 D.now) (fun w hS => ((hS.blk 0 rfl hgp).cell rfl)) (hS.pick [0]) ?_
       refine K.p 26 rfl (.int .i64 (cv64 D.now)) (hS.pick [0]) ?_
       refine K.DW.l 17 rfl (by kernel_rfl) rfl (K.OW.gcall hS [] [0, 1, 2] [.agg #[.int .i64 c.th, .int .i64 c.sl, .int .i64 c.lo, .int .i64 c.bu], .int .i64 D.t, .int .i64 D.n] (rlog_ok _ c (by first | assumption | (unfold cfgOk; decide)) D.t D.n) ?_)
       clear hS; rintro _ _ w ⟨rfl, rfl⟩ hS
       replace hS : K.Sat w0 [gp, l, fr] w := hS
       refine ⟨.inl (hS.pick [0]), ?_⟩
       refine K.DW.l 27 rfl (by kernel_rfl) rfl (K.OW.gcall hS [] [0, 1, 2] [.int .i64 D.slot, .int .i64 (cv64 D.now)] (rentry_ok _ D.slot (cv64 D.now) (by omega) (by omega)) ?_)
       clear hS; rintro _ _ w ⟨rfl, rfl⟩ hS
       replace hS : K.Sat w0 [gp, l, fr] w := hS
       have hw_30 : isW (entryI D.slot (cv64 D.now)) := entryI_w _ _
       refine ⟨.inl (hS.pick [0]), ?_⟩
       refine K.DW.l 28 rfl (by kernel_rfl) rfl (K.OW.gcall hS [1] [0, 2] [.pointer (some ⟨pm, 0, none⟩), .int .i64 2, .int .i64 D.t, .int .i64 (logS c D.t D.n), .int .u64 0, .int .u64 (entryI D.slot (cv64 D.now))] (rmDo2_ok _ _ _ _ _ _ _ x D.t (logS c D.t D.n) (0 : Int) (entryI D.slot (cv64 D.now)) (by omega) (by first | omega | assumption | exact log_int (by assumption) _ _ | exact aft_int (by assumption) _ | exact ann_int (by assumption) _ (by omega))) ?_)
       clear hS; rintro _ _ w ⟨l_31, rfl, rfl, x_32⟩ hS
       replace hS : K.Sat w0 [l_31, gp, fr] w := hS
       refine ⟨.inl (hS.pick [1]), ?_⟩
       refine K.DW.done (by kernel_rfl) ?_
       refine K.t (K.g (K.q [.pointer (some ⟨r, 0, none⟩), .pointer (some ⟨r, 0, none⟩), .pointer (some ⟨r, 6, none⟩)] ?_))
       refine K.l (K.OW.gst 1 [.int .i64 3] _ hS hgp ?_)
       clear hS; intro w g_33 hg_34 hS
       replace hS : K.Sat w0 [l_31, g_33, fr] w := hS
       refine K.z ?_
       have e : dStep c n t D M = (⟨D.t, D.kind, 3, D.n, D.slot, D.place, D.now, D.holds, D.count, D.pc, D.push⟩, ((M.accS n D.t (logS c D.t D.n) (entryI D.slot (cv64 D.now))).1)) := by unfold dStep; rw [← entry_cv D.slot D.now]; rw [if_neg (by omega), if_neg (by omega), if_neg (by omega), if_neg (by omega), if_neg (by omega), if_neg (by omega)] <;> rfl
       refine ⟨.inl rfl, rfl, (.tuple #[]), K.res0 rfl, [g_33, l_31], ?_, hS.pick [1, 0, 2]⟩
       exact ⟨_, _, rfl, rfl, by rw [e]; exact hg_34, by rw [e]; exact x_32⟩
end Go.Proofs.YtkmndplicmaahaaGreat
