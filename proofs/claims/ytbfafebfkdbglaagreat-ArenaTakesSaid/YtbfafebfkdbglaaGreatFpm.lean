import Derived.Test.YtbfafebfkdbglaaGreatFrd3
import Derived.Test.YtbfafebfkdbglaaGreatFlist
/- The memory: what it is; its small methods. -/
namespace Go.Proofs.YtbfafebfkdbglaaGreat
open Go.RowKit
set_option linter.unusedVariables false
attribute [local irreducible] K.KW K.RW K.DW K.OW K.QR K.KC
/-- an access -/
structure AccM where
 kind : Int
 thread : Int
 at_ : Int
 old : Int
 new : Int
 done : Bool
def cAcc (a : AccM) : List Value := [K.iv a.kind, K.iv a.thread, K.iv a.at_, .int .u64 a.old, .int .u64 a.new, .bool a.done]
def acc0 : AccM := ⟨0, 0, 0, 0, 0, false⟩
/-- a memory: a device, passing words, how many accesses there were, how many were bad, the last one -/
structure MemM where
 dev : DevM
 pass : List Int
 clock : Int
 bad : Int
 last : AccM
def i64s (x : Int) : Int := IntKind.i64.wrap (x + 1)
def MemM.peek (M : MemM) (n : Nat) (i : Int) : Option Int := if 0 ≤ i then (if i < n * 8 then some (M.dev.seen.getD i.toNat 0) else none) else if -1 - i < M.pass.length then some (M.pass.getD (-1 - i).toNat 0) else none
def MemM.put (M : MemM) (i w : Int) : MemM := if 0 ≤ i then { M with dev := M.dev.store i.toNat w } else { M with pass := M.pass.set (-1 - i).toNat w }
def MemM.count (M : MemM) (a : AccM) (is : Bool) : MemM := { M with clock := i64s M.clock, last := a, bad := if is then M.bad else i64s M.bad }
/-- the accesses: the memory behind each, and what it was -/
def MemM.accL (M : MemM) (n : Nat) (th i : Int) : MemM × AccM :=
 let p := M.peek n i; let a : AccM := ⟨1, th, i, p.getD 0, 0, p.isSome⟩
 (M.count a p.isSome, a)
def MemM.accS (M : MemM) (n : Nat) (th i w : Int) : MemM × AccM :=
 let p := M.peek n i; let a : AccM := ⟨2, th, i, p.getD 0, w, p.isSome⟩
 ((if p.isSome then M.put i w else M).count a p.isSome, a)
def MemM.accW (M : MemM) (n : Nat) (th i old w : Int) : MemM × AccM :=
 let p := M.peek n i; let a : AccM := ⟨3, th, i, p.getD 0, w, p == some old⟩
 ((if p == some old then M.put i w else M).count a p.isSome, a)
def MemM.accF (M : MemM) (n t : Nat) (th i : Int) : MemM × AccM :=
 let is := decide (0 ≤ i ∧ i < n * 8 ∧ 0 ≤ th ∧ th < t); let a : AccM := ⟨4, th, i, 0, 0, is⟩
 ((if is then { M with dev := M.dev.mark th.toNat (i / 8).toNat } else M).count a is, a)
def MemM.accE (M : MemM) (t : Nat) (th : Int) : MemM × AccM :=
 let is := decide (0 ≤ th ∧ th < t); let a : AccM := ⟨5, th, 0, 0, 0, is⟩
 ((if is then { M with dev := M.dev.fence th.toNat } else M).count a is, a)
def MemM.crash (M : MemM) : MemM := { M with dev := M.dev.crash, pass := List.replicate M.pass.length 0, last := acc0 }
def MemM.fresh (W : List Int) (n t k : Nat) : MemM := ⟨DevM.fresh W n t, List.replicate k 0, 0, 0, acc0⟩
def MemAt (l : K.Cs) (p q n t : Nat) (M : MemM) : Prop :=
 ∃ (g gp gd : K.Cs) (pa : Option Addr) (np cp : Nat), l = [g, gp, gd].flatten ∧
  g = [K.pt p 171 [K.pa q, .slice pa np cp, K.iv M.clock, K.iv M.bad, K.iv M.last.kind, K.iv M.last.thread, K.iv M.last.at_, .int .u64 M.last.old, .int .u64 M.last.new, .bool M.last.done]] ∧
  K.OwnG gp 57 1 pa np cp (M.pass.flatMap cU64) ∧ DevAt gd q n t M.dev ∧ M.pass.length = np ∧ np ≤ 262144
theorem MemAt.isok {l : K.Cs} {p q n t : Nat} {M : MemM} (x : MemAt l p q n t M) : M.dev.ok n t ∧ M.pass.length ≤ 262144 := by
 obtain ⟨_, _, _, _, _, _, _, _, _, h, h1, h2⟩ := x; exact ⟨h.isok, by omega⟩
set_option maxHeartbeats 1000000 in
set_option maxRecDepth 100000 in
theorem mPass_ok (w0 : World) (p q n t : Nat) (M : MemM) (l : K.Cs) (x : MemAt l p q n t M) (i : Int) (hi : isInt i) :
  K.GC Tryz.prog w0 93 #[K.pa p, K.iv i] [l] (fun v post => post = [l] ∧ ((v = .tuple #[K.iv (-1 - i), .bool true] ∧ i < 0 ∧ -1 - i < M.pass.length) ∨ (v = .tuple #[K.iv (-1 - i), .bool false] ∧ ¬(i < 0 ∧ -1 - i < M.pass.length)))) := by
 refine K.GC.mk (n := 21) Tryz.func93 rfl rfl [K.pa p, K.iv i] rfl rfl ?_
 intro fr w hS
 replace hS : K.Sat w0 [l, fr] w := hS
 obtain ⟨mg, mp, md, pa, np, cp, rfl, hmg, hmp, hmd, hnp, hn18⟩ := x
 replace hS : K.Sat w0 [mg, mp, md, fr] w := hS.of
 refine K.s (K.g (K.q [K.iv 0, .bool false] (K.z (K.t (K.s (K.g (K.q [K.iv i] ?_)))))))
 refine K.a (K.QR.n64 (((-1) : Int) - (i : Int)) (((-1) : Int) - (i : Int)) (by kernel_rfl) (by omega)) ?_
 refine K.q [K.iv (((-1) : Int) - (i : Int))] (K.z (K.t (K.s ?_)))
 refine K.KW.gdrawn [0] hS (by kernel_rfl) ?_
 clear hS; intro w hS
 refine K.p 0 rfl (K.iv (((-1) : Int) - (i : Int))) (hS.pick [0]) ?_
 refine K.b 1 rfl (K.iv i) (hS.pick [0]) ?_
 by_cases h_1 : (i : Int) < (0 : Int)
 ·
  refine K.c 2 rfl (K.QR.nice (v := .bool (decide ((i : Int) < (0 : Int)))) (by kernel_rfl) (congrArg Value.bool (decide_eq_true h_1))) (hS.pick [0]) ?_
  refine K.b 3 rfl (.bool true) (hS.pick [0]) ?_
  refine K.p 4 rfl (K.iv (((-1) : Int) - (i : Int))) (hS.pick [0]) ?_
  refine K.p 5 rfl (K.pa p) (hS.pick [0]) ?_
  refine K.p 6 rfl (K.pa p) (hS.pick [0]) ?_
  refine K.p 7 rfl (.pointer (some ⟨p, 1, none⟩)) (hS.pick [0]) ?_
  refine K.o_ 8 rfl (.slice pa np cp) (fun w hS => ((hS.blk 0 rfl hmg).cell rfl)) (hS.pick [0]) ?_
  refine K.m 9 rfl (fun w hS => K.QR.len (P := Tryz.prog) rfl rfl Tryz.underlying78) (hS.pick [0]) ?_
  by_cases h_2 : (((-1) : Int) - (i : Int) : Int) < (((np : Nat) : Int) : Int)
  ·
   refine K.m 10 rfl (fun w hS => K.QR.nice (v := .bool (decide ((((-1) : Int) - (i : Int) : Int) < (((np : Nat) : Int) : Int)))) (by kernel_rfl) (congrArg Value.bool (decide_eq_true h_2))) (hS.pick [0]) ?_
   refine K.p 11 rfl (.bool true) (hS.pick [0]) ?_
   refine K.b 12 rfl (K.iv (((-1) : Int) - (i : Int))) (hS.pick [0]) ?_
   refine K.b 13 rfl (.bool true) (hS.pick [0]) ?_
   refine K.DW.done (by kernel_rfl) ?_
   refine K.t (K.r ?_)
   replace hS : K.Sat w0 [[mg, mp, md].flatten, fr] w := (hS.pick [0, 1, 2, 3]).of
   refine ⟨.inr rfl, rfl, (.tuple #[K.iv (((-1) : Int) - (i : Int)), .bool true]), K.res2 rfl rfl rfl, [[mg, mp, md].flatten], ?_, hS.pick [0, 1]⟩
   exact ⟨rfl, .inl ⟨rfl, by omega, by omega⟩⟩
  ·
   refine K.m 10 rfl (fun w hS => K.QR.nice (v := .bool (decide ((((-1) : Int) - (i : Int) : Int) < (((np : Nat) : Int) : Int)))) (by kernel_rfl) (congrArg Value.bool (decide_eq_false h_2))) (hS.pick [0]) ?_
   refine K.p 11 rfl (.bool false) (hS.pick [0]) ?_
   refine K.b 12 rfl (K.iv (((-1) : Int) - (i : Int))) (hS.pick [0]) ?_
   refine K.b 13 rfl (.bool false) (hS.pick [0]) ?_
   refine K.DW.done (by kernel_rfl) ?_
   refine K.t (K.r ?_)
   replace hS : K.Sat w0 [[mg, mp, md].flatten, fr] w := (hS.pick [0, 1, 2, 3]).of
   refine ⟨.inr rfl, rfl, (.tuple #[K.iv (((-1) : Int) - (i : Int)), .bool false]), K.res2 rfl rfl rfl, [[mg, mp, md].flatten], ?_, hS.pick [0, 1]⟩
   exact ⟨rfl, .inr ⟨rfl, by omega⟩⟩
 ·
  refine K.c 2 rfl (K.QR.nice (v := .bool (decide ((i : Int) < (0 : Int)))) (by kernel_rfl) (congrArg Value.bool (decide_eq_false h_1))) (hS.pick [0]) ?_
  refine K.b 3 rfl (.bool false) (hS.pick [0]) ?_
  refine K.w_ 4 rfl (hS.pick [0]) ?_
  refine K.w_ 5 rfl (hS.pick [0]) ?_
  refine K.w_ 6 rfl (hS.pick [0]) ?_
  refine K.w_ 7 rfl (hS.pick [0]) ?_
  refine K.w_ 8 rfl (hS.pick [0]) ?_
  refine K.w_ 9 rfl (hS.pick [0]) ?_
  refine K.w_ 10 rfl (hS.pick [0]) ?_
  refine K.p 11 rfl (.bool false) (hS.pick [0]) ?_
  refine K.b 12 rfl (K.iv (((-1) : Int) - (i : Int))) (hS.pick [0]) ?_
  refine K.b 13 rfl (.bool false) (hS.pick [0]) ?_
  refine K.DW.done (by kernel_rfl) ?_
  refine K.t (K.r ?_)
  replace hS : K.Sat w0 [[mg, mp, md].flatten, fr] w := (hS.pick [0, 1, 2, 3]).of
  refine ⟨.inr rfl, rfl, (.tuple #[K.iv (((-1) : Int) - (i : Int)), .bool false]), K.res2 rfl rfl rfl, [[mg, mp, md].flatten], ?_, hS.pick [0, 1]⟩
  exact ⟨rfl, .inr ⟨rfl, by omega⟩⟩
theorem peek_dev {M : MemM} {n : Nat} {i : Int} (h : 0 ≤ i ∧ i < n * 8) : M.peek n i = some (M.dev.seen.getD i.toNat 0) := by unfold MemM.peek; rw [if_pos h.1, if_pos h.2]
theorem peek_nodev {M : MemM} {n : Nat} {i : Int} (h : 0 ≤ i) (h2 : ¬(0 ≤ i ∧ i < n * 8)) : M.peek n i = none := by unfold MemM.peek; rw [if_pos h, if_neg (by omega)]
theorem peek_pass {M : MemM} {n : Nat} {i : Int} (h : i < 0 ∧ -1 - i < M.pass.length) : M.peek n i = some (M.pass.getD (-1 - i).toNat 0) := by unfold MemM.peek; rw [if_neg (by omega), if_pos h.2]
theorem peek_nopass {M : MemM} {n : Nat} {i : Int} (h : i < 0) (h2 : ¬(i < 0 ∧ -1 - i < M.pass.length)) : M.peek n i = none := by unfold MemM.peek; rw [if_neg (by omega), if_neg (by omega)]
theorem peek_some {M : MemM} {n : Nat} {i v : Int} (h : M.peek n i = some v) : (0 ≤ i ∧ i < n * 8) ∨ (i < 0 ∧ -1 - i < M.pass.length) := by
 unfold MemM.peek at h
 split at h
 ·split at h
  ·exact .inl (by omega)
  ·cases h
 ·split at h
  ·exact .inr (by omega)
  ·cases h
set_option maxHeartbeats 1000000 in
set_option maxRecDepth 100000 in
theorem mPeek_ok (w0 : World) (p q n t : Nat) (M : MemM) (l : K.Cs) (x : MemAt l p q n t M) (i : Int) (hi : isInt i) :
  K.GC Tryz.prog w0 36 #[K.pa p, K.iv i] [l] (fun v post => post = [l] ∧ ((∃ y, v = .tuple #[.int .u64 y, .bool true] ∧ M.peek n i = some y) ∨ (v = .tuple #[.int .u64 0, .bool false] ∧ M.peek n i = none))) := by
 refine K.GC.mk (n := 41) Tryz.func36 rfl rfl [K.pa p, K.iv i] rfl rfl ?_
 intro fr w hS
 replace hS : K.Sat w0 [l, fr] w := hS
 refine K.s (K.g (K.q [.int .u64 0, .bool false] (K.z (K.t (K.s (K.s (K.g (K.q [K.pa p, .bool false] (K.z (K.t (K.f (K.k (K.t (K.s ?_))))))))))))))
 refine K.s (K.g (K.q [K.iv i] ?_))
 by_cases h_1 : (i : Int) ≥ (0 : Int)
 ·
  refine K.y ((i : Int) ≥ (0 : Int)) h_1 ?_
  refine K.z (K.t (K.h (K.s ?_)))
  obtain ⟨mg, mp, md, pa, np, cp, rfl, hmg, hmp, hmd, hnp, hn18⟩ := x
  replace hS : K.Sat w0 [mg, mp, md, fr] w := hS.of
  refine K.g (K.q [K.pa p, K.pa p, K.pa p] ?_)
  refine K.d (K.pa q) ((hS.blk 0 rfl hmg).cell rfl) ?_
  refine K.q [K.iv i] ?_
  refine K.l (K.OW.gcall hS [2] [0, 1, 3] [K.pa q, K.iv i] (dvLoad_ok _ _ _ _ _ _ hmd i (by omega)) ?_)
  clear hS; rintro _ _ w ⟨rfl, (⟨rfl, h_2⟩ | ⟨rfl, h_3⟩)⟩ hS
  ·
   replace hS : K.Sat w0 [md, mg, mp, fr] w := hS
   refine K.q [.tuple #[.int .u64 (M.dev.seen.getD i.toNat 0), K.iv 0], .int .u64 (M.dev.seen.getD i.toNat 0), K.iv 0, .int .u64 (M.dev.seen.getD i.toNat 0), K.iv 0] (K.z (K.t (K.s (K.g (K.q [.int .u64 (M.dev.seen.getD i.toNat 0), K.iv 0, .bool true, .int .u64 (M.dev.seen.getD i.toNat 0), .bool true] (K.z (K.t (K.r (K.u ?_)))))))))
   replace hS : K.Sat w0 [[mg, mp, md].flatten, fr] w := (hS.pick [1, 2, 0, 3]).of
   refine ⟨.inr rfl, rfl, (.tuple #[.int .u64 (M.dev.seen.getD i.toNat 0), .bool true]), K.res2 rfl rfl rfl, [[mg, mp, md].flatten], ?_, hS.pick [0, 1]⟩
   exact ⟨rfl, .inl ⟨_, rfl, peek_dev (by omega)⟩⟩
  ·
   replace hS : K.Sat w0 [md, mg, mp, fr] w := hS
   refine K.q [.tuple #[.int .u64 0, K.iv 5], .int .u64 0, K.iv 5, .int .u64 0, K.iv 5] (K.z (K.t (K.s (K.g (K.q [.int .u64 0, K.iv 5, .bool false, .int .u64 0, .bool false] (K.z (K.t (K.r (K.u ?_)))))))))
   replace hS : K.Sat w0 [[mg, mp, md].flatten, fr] w := (hS.pick [1, 2, 0, 3]).of
   refine ⟨.inr rfl, rfl, (.tuple #[.int .u64 0, .bool false]), K.res2 rfl rfl rfl, [[mg, mp, md].flatten], ?_, hS.pick [0, 1]⟩
   exact ⟨rfl, .inr ⟨rfl, peek_nodev (by omega) (by omega)⟩⟩
 ·
  refine K.x ((i : Int) ≥ (0 : Int)) h_1 ?_
  refine K.z (K.t (K.f (K.k (K.t (K.s (K.g (K.q [K.pa p, K.iv i] ?_)))))))
  refine K.l (K.OW.gcall hS [0] [1] [K.pa p, K.iv i] (mPass_ok _ _ _ _ _ _ _ x i (by omega)) ?_)
  clear hS; rintro _ _ w ⟨rfl, (⟨rfl, h_4, h2_5⟩ | ⟨rfl, h_6⟩)⟩ hS
  ·
   replace hS : K.Sat w0 [l, fr] w := hS
   refine K.q [.tuple #[K.iv (-1 - i), .bool true], K.iv (-1 - i), .bool true, K.iv (-1 - i), .bool true] (K.z (K.t (K.s (K.s (K.g (K.q [.bool true, .bool false] (K.z (K.t (K.f (K.k (K.t (K.s ?_))))))))))))
   obtain ⟨mg, mp, md, pa, np, cp, rfl, hmg, hmp, hmd, hnp, hn18⟩ := x
   replace hS : K.Sat w0 [mg, mp, md, fr] w := hS.of
   refine K.g (K.q [K.pa p, K.pa p, .pointer (some ⟨p, 1, none⟩)] ?_)
   refine K.d (.slice pa np cp) ((hS.blk 0 rfl hmg).cell rfl) ?_
   refine K.q [K.iv (-1 - i)] ?_
   obtain ⟨b_7, rfl⟩ := hmp.some_ (by have := hmp.le; omega)
   refine K.a (K.QR.ix ((-1 - i).toNat) 1 rfl rfl rfl Tryz.underlying78 (by kernel_rfl) (by omega) (by first | (simp; done) | omega | (simp; omega))) ?_
   refine K.d (.int .u64 (M.pass.getD ((-1 - i).toNat) 0)) (K.Own.atS (c := cU64) (d := 0) (fun _ => rfl) (hS.ownr 1 rfl hmp) hnp ((-1 - i).toNat) (by omega)) ?_
   refine K.q [.int .u64 (M.pass.getD ((-1 - i).toNat) 0), .bool true] (K.z (K.t (K.r ?_)))
   replace hS : K.Sat w0 [[mg, mp, md].flatten, fr] w := (hS.pick [0, 1, 2, 3]).of
   refine ⟨.inr rfl, rfl, (.tuple #[.int .u64 (M.pass.getD ((-1 - i).toNat) 0), .bool true]), K.res2 rfl rfl rfl, [[mg, mp, md].flatten], ?_, hS.pick [0, 1]⟩
   exact ⟨rfl, .inl ⟨_, rfl, peek_pass (by omega)⟩⟩
  ·
   replace hS : K.Sat w0 [l, fr] w := hS
   refine K.q [.tuple #[K.iv (-1 - i), .bool false], K.iv (-1 - i), .bool false, K.iv (-1 - i), .bool false] (K.z (K.t (K.s (K.s (K.g (K.q [.bool false, .bool true] (K.z (K.t (K.h (K.s (K.g (K.q [.int .u64 0, .bool false] (K.z (K.t ?_))))))))))))))
   refine K.r (K.u ?_)
   refine ⟨.inr rfl, rfl, (.tuple #[.int .u64 0, .bool false]), K.res2 rfl rfl rfl, [l], ?_, hS.pick [0, 1]⟩
   exact ⟨rfl, .inr ⟨rfl, peek_nopass (by omega) (by omega)⟩⟩
set_option maxHeartbeats 1000000 in
set_option maxRecDepth 100000 in
theorem mClock_ok (w0 : World) (p q n t : Nat) (M : MemM) (l : K.Cs) (x : MemAt l p q n t M) :
  K.GC Tryz.prog w0 42 #[K.pa p] [l] (fun v post => v = K.iv M.clock ∧ post = [l]) := by
 refine K.GC.mk (n := 9) Tryz.func42 rfl rfl [K.pa p] rfl rfl ?_
 intro fr w hS
 replace hS : K.Sat w0 [l, fr] w := hS
 obtain ⟨mg, mp, md, pa, np, cp, rfl, hmg, hmp, hmd, hnp, hn18⟩ := x
 replace hS : K.Sat w0 [mg, mp, md, fr] w := hS.of
 refine K.s (K.g (K.q [K.iv 0] (K.z (K.t (K.s (K.s (K.g (K.q [K.pa p, .bool false] (K.z (K.t (K.f (K.k (K.t (K.s ?_))))))))))))))
 refine K.g (K.q [K.pa p, K.pa p, .pointer (some ⟨p, 2, none⟩)] ?_)
 refine K.d (K.iv M.clock) ((hS.blk 0 rfl hmg).cell rfl) ?_
 refine K.q [K.iv M.clock] (K.z (K.t (K.r ?_)))
 replace hS : K.Sat w0 [[mg, mp, md].flatten, fr] w := (hS.pick [0, 1, 2, 3]).of
 refine ⟨.inr rfl, rfl, (K.iv M.clock), K.res1 rfl rfl, [[mg, mp, md].flatten], ?_, hS.pick [0, 1]⟩
 exact ⟨rfl, rfl⟩
set_option maxHeartbeats 1000000 in
set_option maxRecDepth 100000 in
theorem mBad_ok (w0 : World) (p q n t : Nat) (M : MemM) (l : K.Cs) (x : MemAt l p q n t M) :
  K.GC Tryz.prog w0 87 #[K.pa p] [l] (fun v post => v = K.iv M.bad ∧ post = [l]) := by
 refine K.GC.mk (n := 9) Tryz.func87 rfl rfl [K.pa p] rfl rfl ?_
 intro fr w hS
 replace hS : K.Sat w0 [l, fr] w := hS
 obtain ⟨mg, mp, md, pa, np, cp, rfl, hmg, hmp, hmd, hnp, hn18⟩ := x
 replace hS : K.Sat w0 [mg, mp, md, fr] w := hS.of
 refine K.s (K.g (K.q [K.iv 0] (K.z (K.t (K.s (K.s (K.g (K.q [K.pa p, .bool false] (K.z (K.t (K.f (K.k (K.t (K.s ?_))))))))))))))
 refine K.g (K.q [K.pa p, K.pa p, .pointer (some ⟨p, 3, none⟩)] ?_)
 refine K.d (K.iv M.bad) ((hS.blk 0 rfl hmg).cell rfl) ?_
 refine K.q [K.iv M.bad] (K.z (K.t (K.r ?_)))
 replace hS : K.Sat w0 [[mg, mp, md].flatten, fr] w := (hS.pick [0, 1, 2, 3]).of
 refine ⟨.inr rfl, rfl, (K.iv M.bad), K.res1 rfl rfl, [[mg, mp, md].flatten], ?_, hS.pick [0, 1]⟩
 exact ⟨rfl, rfl⟩
set_option maxHeartbeats 1000000 in
set_option maxRecDepth 100000 in
theorem mDevice_ok (w0 : World) (p q n t : Nat) (M : MemM) (l : K.Cs) (x : MemAt l p q n t M) :
  K.GC Tryz.prog w0 38 #[K.pa p] [l] (fun v post => v = K.pa q ∧ post = [l]) := by
 refine K.GC.mk (n := 9) Tryz.func38 rfl rfl [K.pa p] rfl rfl ?_
 intro fr w hS
 replace hS : K.Sat w0 [l, fr] w := hS
 obtain ⟨mg, mp, md, pa, np, cp, rfl, hmg, hmp, hmd, hnp, hn18⟩ := x
 replace hS : K.Sat w0 [mg, mp, md, fr] w := hS.of
 refine K.s (K.g (K.q [.pointer none] (K.z (K.t (K.s (K.s (K.g (K.q [K.pa p, .bool false] (K.z (K.t (K.f (K.k (K.t (K.s ?_))))))))))))))
 refine K.g (K.q [K.pa p, K.pa p, K.pa p] ?_)
 refine K.d (K.pa q) ((hS.blk 0 rfl hmg).cell rfl) ?_
 refine K.q [K.pa q] (K.z (K.t (K.r ?_)))
 replace hS : K.Sat w0 [[mg, mp, md].flatten, fr] w := (hS.pick [0, 1, 2, 3]).of
 refine ⟨.inr rfl, rfl, (K.pa q), K.res1 rfl rfl, [[mg, mp, md].flatten], ?_, hS.pick [0, 1]⟩
 exact ⟨rfl, rfl⟩
set_option maxHeartbeats 1000000 in
set_option maxRecDepth 100000 in
theorem mLast_ok (w0 : World) (p q n t : Nat) (M : MemM) (l : K.Cs) (x : MemAt l p q n t M) :
  K.GC Tryz.prog w0 88 #[K.pa p] [l] (fun v post => v = .agg (cAcc M.last).toArray ∧ post = [l]) := by
 refine K.GC.mk (n := 10) Tryz.func88 rfl rfl [K.pa p] rfl rfl ?_
 intro fr w hS
 replace hS : K.Sat w0 [l, fr] w := hS
 refine K.s (K.g ?_)
 refine K.l (K.OW.gnew 132 [K.iv 0, K.iv 0, K.iv 0, .int .u64 0, .int .u64 0, .bool false] hS ?_)
 clear hS; intro w r_1 g_2 hg_3 hS
 refine K.z (K.t (K.s (K.s ?_)))
 obtain ⟨mg, mp, md, pa, np, cp, rfl, hmg, hmp, hmd, hnp, hn18⟩ := x
 replace hS : K.Sat w0 [g_2, mg, mp, md, fr] w := hS.of
 refine K.g (K.q [K.pa p, .bool false] (K.z (K.t (K.f (K.k (K.t (K.s (K.g (K.q [K.pa p, K.pa p, .pointer (some ⟨p, 4, none⟩)] ?_)))))))))
 refine K.a (K.QR.ldN [K.iv M.last.kind, K.iv M.last.thread, K.iv M.last.at_, .int .u64 M.last.old, .int .u64 M.last.new, .bool M.last.done] rfl rfl (by kernel_rfl) (by kernel_rfl) (K.cells (K.cl ((hS.blk 1 rfl hmg).cell rfl) (K.cl ((hS.blk 1 rfl hmg).cell rfl) (K.cl ((hS.blk 1 rfl hmg).cell rfl) (K.cl ((hS.blk 1 rfl hmg).cell rfl) (K.cl ((hS.blk 1 rfl hmg).cell rfl) (K.cl ((hS.blk 1 rfl hmg).cell rfl) K.cl0)))))))) ?_
 refine K.l (K.OW.gst 0 [K.iv M.last.kind, K.iv M.last.thread, K.iv M.last.at_, .int .u64 M.last.old, .int .u64 M.last.new, .bool M.last.done] _ hS hg_3 ?_)
 clear hS; intro w g_4 hg_5 hS
 replace hS : K.Sat w0 [g_4, mg, mp, md, fr] w := hS
 refine K.z (K.t (K.r ?_))
 replace hS : K.Sat w0 [[mg, mp, md].flatten, g_4, fr] w := (hS.pick [1, 2, 3, 0, 4]).of
 refine ⟨.inr rfl, rfl, (.agg #[K.iv M.last.kind, K.iv M.last.thread, K.iv M.last.at_, .int .u64 M.last.old, .int .u64 M.last.new, .bool M.last.done]), K.resAt (rs := [.cell 2 132]) [.agg #[K.iv M.last.kind, K.iv M.last.thread, K.iv M.last.at_, .int .u64 M.last.old, .int .u64 M.last.new, .bool M.last.done]] rfl ⟨⟨_, rfl, K.lvN [K.iv M.last.kind, K.iv M.last.thread, K.iv M.last.at_, .int .u64 M.last.old, .int .u64 M.last.new, .bool M.last.done] (by kernel_rfl) (by kernel_rfl) (K.cells (K.cl ((hS.blk 1 rfl hg_5).cell rfl) (K.cl ((hS.blk 1 rfl hg_5).cell rfl) (K.cl ((hS.blk 1 rfl hg_5).cell rfl) (K.cl ((hS.blk 1 rfl hg_5).cell rfl) (K.cl ((hS.blk 1 rfl hg_5).cell rfl) (K.cl ((hS.blk 1 rfl hg_5).cell rfl) K.cl0)))))))⟩, trivial⟩, [[mg, mp, md].flatten], ?_, hS.pick [0, 2]⟩
 exact ⟨rfl, rfl⟩
end Go.Proofs.YtbfafebfkdbglaaGreat
