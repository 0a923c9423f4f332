import Derived.Test.YtbfafebfkdbglaaGreatFre
import Derived.Test.YtbfafebfkdbglaaGreatFlist
/- Logs: Reclaim. -/
namespace Go.Proofs.YtbfafebfkdbglaaGreat
open Go.RowKit
set_option linter.unusedVariables false
attribute [local irreducible] K.KW K.RW K.DW K.OW K.QR K.KC
structure RecS where
 t : Int
 pc : Int
 now : Int
 next : Int
 slot : Int
 count : Int
 push : PushS
abbrev recPt (p b : Nat) (a : Option Addr) (S : RecS) : K.Cs := [K.pt p 213 [K.pa b, K.iv S.t, K.iv S.pc, .int .u64 S.now, K.iv S.next, K.iv S.slot, .pointer a, K.iv S.count]]
def RecS.good (c : Cfg) (S : RecS) : Prop := isInt S.t ∧ isW S.now ∧ isInt S.slot ∧ (0 ≤ S.next ∧ S.next ≤ c.lo) ∧ (0 ≤ S.count ∧ S.count ≤ S.next) ∧ ((S.pc = 0 ∧ S.next = 0) ∨ (S.pc = 1 ∧ S.next < c.lo) ∨ (S.pc = 2 ∧ S.count + 1 ≤ S.next) ∨ (S.pc = 4 ∧ S.count + 1 ≤ S.next ∧ S.push.good ∧ (S.push.pc = 0 ∨ S.push.pc = 1 ∨ S.push.pc = 2)) ∨ S.pc = 5)
def RecS.done (S : RecS) : Bool := decide (S.pc = 5)
def recHolds (S : RecS) : Int := if S.pc = 4 then S.slot else -1
def recOld (now w : Int) : Prop := ¬ toI w = -1 ∧ ¬ stampI w = -1 ∧ 2 ≤ now ∧ stampI w ≤ now - 2
instance (now w : Int) : Decidable (recOld now w) := by unfold recOld; infer_instance
def recLd (c : Cfg) (n : Nat) (S : RecS) (M : MemM) : MemM × AccM := M.accL n S.t (logS c S.t S.next)
def onPc (c : Cfg) (next : Int) : Int := if next < c.lo then 1 else 5
def recLook (c : Cfg) (n : Nat) (S : RecS) (M : MemM) : RecS × MemM :=
 if recOld S.now (recLd c n S M).2.old then (⟨S.t, 2, S.now, S.next + 1, toI (recLd c n S M).2.old, S.count, S.push⟩, (recLd c n S M).1)
 else (⟨S.t, onPc c (S.next + 1), S.now, S.next + 1, S.slot, S.count, S.push⟩, (recLd c n S M).1)
def recPush (c : Cfg) (S : RecS) (P : PushS) : RecS :=
 if P.pc = 3 then ⟨S.t, onPc c S.next, S.now, S.next, S.slot, S.count + 1, P⟩ else ⟨S.t, S.pc, S.now, S.next, S.slot, S.count, P⟩
def recStep (c : Cfg) (n : Nat) (S : RecS) (M : MemM) : RecS × MemM :=
 if S.pc = 5 then (S, M)
 else if S.pc = 0 then (⟨S.t, 1, (M.accL n S.t (-1)).2.old, S.next, S.slot, S.count, S.push⟩, (M.accL n S.t (-1)).1)
 else if S.pc = 1 then recLook c n S M
 else if S.pc = 2 then (⟨S.t, 4, S.now, S.next, S.slot, S.count, ⟨S.t, 0, 0, S.slot⟩⟩, (M.accS n S.t (logS c S.t (S.next - 1)) 0).1)
 else (recPush c S (pushStep c n S.push M).1, (pushStep c n S.push M).2)
theorem toI_int (w : Int) : isInt (toI w) := by unfold toI; omega
theorem stampI_rng (w : Int) : -1 ≤ stampI w ∧ stampI w < 4294967295 := by unfold stampI; omega
theorem pushStep_pcs {c : Cfg} {n : Nat} {S : PushS} {M : MemM} (h : S.pc = 0 ∨ S.pc = 1 ∨ S.pc = 2) : (pushStep c n S M).1.pc = 0 ∨ (pushStep c n S M).1.pc = 1 ∨ (pushStep c n S M).1.pc = 2 ∨ (pushStep c n S M).1.pc = 3 := by
 unfold pushStep
 split
 ·omega
 split
 ·exact .inr (.inl rfl)
 split
 ·exact .inr (.inr (.inl rfl))
 split
 ·exact .inr (.inr (.inr rfl))
 ·exact .inl rfl
theorem recStep_good {c : Cfg} (hc : cfgOk c) {n : Nat} {S : RecS} {M : MemM} (hS : S.good c) (hM : M.good) : (recStep c n S M).1.good c ∧ (recStep c n S M).2.good := by
 have hS0 := hS
 obtain ⟨h1, h2, h3, h4, h5, h6⟩ := hS
 unfold cfgOk at hc
 unfold recStep
 split
 ·exact ⟨hS0, hM⟩
 split
 ·exact ⟨⟨h1, (accL_good (n := n) (th := S.t) (i := -1) hM).2, h3, h4, h5, .inr (.inl ⟨rfl, by show S.next < c.lo; omega⟩)⟩, (accL_good hM).1⟩
 split
 ·unfold recLook
  split
  ·exact ⟨⟨h1, h2, toI_int _, by show 0 ≤ S.next + 1 ∧ S.next + 1 ≤ c.lo; omega, by show 0 ≤ S.count ∧ S.count ≤ S.next + 1; omega, .inr (.inr (.inl ⟨rfl, by show S.count + 1 ≤ S.next + 1; omega⟩))⟩, (accL_good hM).1⟩
  ·refine ⟨⟨h1, h2, h3, by show 0 ≤ S.next + 1 ∧ S.next + 1 ≤ c.lo; omega, by show 0 ≤ S.count ∧ S.count ≤ S.next + 1; omega, ?_⟩, (accL_good hM).1⟩
   show (onPc c (S.next + 1) = 0 ∧ S.next + 1 = 0) ∨ (onPc c (S.next + 1) = 1 ∧ S.next + 1 < c.lo) ∨ _
   unfold onPc
   split
   ·exact .inr (.inl ⟨rfl, by assumption⟩)
   ·exact .inr (.inr (.inr (.inr rfl)))
 split
 ·exact ⟨⟨h1, h2, h3, h4, h5, .inr (.inr (.inr (.inl ⟨rfl, by show S.count + 1 ≤ S.next; omega, ⟨h1, by show isW 0; unfold isW; omega, h3⟩, .inl rfl⟩)))⟩, accS_good hM (by unfold isW; omega)⟩
 ·have hp : S.pc = 4 ∧ S.count + 1 ≤ S.next ∧ S.push.good ∧ (S.push.pc = 0 ∨ S.push.pc = 1 ∨ S.push.pc = 2) := by
   rcases h6 with h | h | h | h | h
   ·omega
   ·omega
   ·omega
   ·exact h
   ·omega
  obtain ⟨hp4, hp5, hp6, hp7⟩ := hp
  obtain ⟨hg, hg2⟩ := pushStep_good (c := c) (n := n) hp6 hM
  refine ⟨?_, hg2⟩
  unfold recPush
  have h8 := pushStep_pcs (c := c) (n := n) (M := M) hp7
  split
  ·refine ⟨h1, h2, h3, h4, by show 0 ≤ S.count + 1 ∧ S.count + 1 ≤ S.next; omega, ?_⟩
   show (onPc c S.next = 0 ∧ S.next = 0) ∨ (onPc c S.next = 1 ∧ S.next < c.lo) ∨ _
   unfold onPc
   split
   ·exact .inr (.inl ⟨rfl, by assumption⟩)
   ·exact .inr (.inr (.inr (.inr rfl)))
  ·exact ⟨h1, h2, h3, h4, h5, .inr (.inr (.inr (.inl ⟨hp4, hp5, hg, by show (pushStep c n S.push M).1.pc = 0 ∨ (pushStep c n S.push M).1.pc = 1 ∨ (pushStep c n S.push M).1.pc = 2; omega⟩)))⟩
set_option maxHeartbeats 1000000 in
set_option maxRecDepth 100000 in
theorem stamp_ok (w0 : World) (x : Int) (hx : isW x) :
  K.GC Tryz.prog w0 232 #[.int .u64 x] [] (fun v post => v = K.iv (stampI x) ∧ post = []) := by
 have hx2 := hx
 unfold isW at hx2
 refine K.GC.mk (n := 14) Tryz.func232 rfl rfl [.int .u64 x] rfl rfl ?_
 intro fr w hS
 replace hS : K.Sat w0 [fr] w := hS
 refine K.s (K.g (K.q [K.iv 0] (K.z (K.t (K.s (K.g ?_))))))
 refine K.l (K.OW.gcall hS [] [0] [K.iv 32, K.iv 32] (field32_32_ok _) ?_)
 clear hS; rintro _ _ w ⟨b_1, c_2, g_3, h_4, rfl, rfl, x_5, y_6⟩ hS
 replace hS : K.Sat w0 [g_3, h_4, fr] w := hS
 refine K.q [.tuple #[.func (.func 157) [].toArray [K.pa b_1, K.pa c_2].toArray, .func (.func 159) [].toArray [K.pa c_2, K.pa b_1].toArray], .func (.func 157) [].toArray [K.pa b_1, K.pa c_2].toArray, .func (.func 159) [].toArray [K.pa c_2, K.pa b_1].toArray, .func (.func 157) [].toArray [K.pa b_1, K.pa c_2].toArray, .func (.func 159) [].toArray [K.pa c_2, K.pa b_1].toArray] (K.z (K.t (K.s (K.g (K.q [.func (.func 157) [].toArray [K.pa b_1, K.pa c_2].toArray, .int .u64 x] ?_)))))
 refine K.l (K.OW.gcallw hS [0, 1] [2] [.int .u64 x, K.pa b_1, K.pa c_2] (cut32_32_ok _ x (by first | assumption | (unfold isW; omega)) _ _ _ _ x_5 y_6) ?_)
 clear hS; rintro _ _ w ⟨rfl, rfl⟩ hS
 replace hS : K.Sat w0 [g_3, h_4, fr] w := hS
 refine K.a (K.QR.nice (v := K.iv (IntKind.i64.wrap (x / 4294967296 % 4294967296 : Int))) (by kernel_rfl) (congrArg (Value.int .i64) (IntWalk.i64_in _ (by omega)))) ?_
 refine K.a (K.QR.n64 (((x / 4294967296 % 4294967296 : Int) : Int) + ((-1) : Int)) (((x / 4294967296 % 4294967296 : Int) : Int) + ((-1) : Int)) (by kernel_rfl) (by omega)) ?_
 refine K.q [K.iv (((x / 4294967296 % 4294967296 : Int) : Int) + ((-1) : Int))] (K.z (K.t (K.r ?_)))
 refine ⟨.inr rfl, rfl, (K.iv (((x / 4294967296 % 4294967296 : Int) : Int) + ((-1) : Int))), K.res1 rfl rfl, [], ?_, hS.pick [2]⟩
 exact ⟨congrArg (Value.int .i64) (by unfold stampI; omega), rfl⟩
set_option maxHeartbeats 1000000 in
set_option maxRecDepth 100000 in
theorem recDone_ok (w0 : World) (p b : Nat) (a : Option Addr) (S : RecS) (gp : K.Cs) (hgp : gp = recPt p b a S) :
  K.GC Tryz.prog w0 219 #[K.pa p] [gp] (fun v post => post = [gp] ∧ ((v = .bool true ∧ S.pc = 5) ∨ (v = .bool false ∧ ¬ S.pc = 5))) := by
 refine K.GC.mk (n := 13) Tryz.func219 rfl rfl [K.pa p] rfl rfl ?_
 intro fr w hS
 replace hS : K.Sat w0 [gp, fr] w := hS
 refine K.s (K.g (K.q [.bool false] (K.z (K.t (K.s (K.g (K.q [K.pa p, .bool false, .bool false, K.pa p, K.pa p, K.pa p, .pointer (some ⟨p, 2, none⟩)] ?_)))))))
 refine K.d (K.iv S.pc) ((hS.blk 0 rfl hgp).cell rfl) ?_
 by_cases h_1 : (S.pc : Int) = (5 : Int)
 ·
  refine K.ye (S.pc : Int) (5 : Int) h_1 ?_
  refine K.q [.bool true, .bool true] (K.z (K.t (K.r ?_)))
  refine ⟨.inr rfl, rfl, (.bool true), K.res1 rfl rfl, [gp], ?_, hS.pick [0, 1]⟩
  exact ⟨rfl, .inl ⟨rfl, by omega⟩⟩
 ·
  refine K.xe (S.pc : Int) (5 : Int) h_1 ?_
  refine K.q [.bool false, .bool false] (K.z (K.t (K.r ?_)))
  refine ⟨.inr rfl, rfl, (.bool false), K.res1 rfl rfl, [gp], ?_, hS.pick [0, 1]⟩
  exact ⟨rfl, .inr ⟨rfl, by omega⟩⟩
set_option maxHeartbeats 1000000 in
set_option maxRecDepth 100000 in
theorem recHolds_ok (w0 : World) (p b : Nat) (a : Option Addr) (S : RecS) (gp : K.Cs) (hgp : gp = recPt p b a S) :
  K.GC Tryz.prog w0 99 #[K.pa p] [gp] (fun v post => v = K.iv (recHolds S) ∧ post = [gp]) := by
 refine K.GC.mk (n := 17) Tryz.func99 rfl rfl [K.pa p] rfl rfl ?_
 intro fr w hS
 replace hS : K.Sat w0 [gp, fr] w := hS
 refine K.s (K.g (K.q [K.iv 0] (K.z (K.t (K.s (K.s (K.g (K.q [K.pa p, .bool false, .bool false, K.pa p, K.pa p, K.pa p, .pointer (some ⟨p, 2, none⟩)] ?_))))))))
 refine K.d (K.iv S.pc) ((hS.blk 0 rfl hgp).cell rfl) ?_
 by_cases h_1 : (S.pc : Int) = (4 : Int)
 ·
  refine K.xn (S.pc : Int) (4 : Int) h_1 ?_
  refine K.q [.bool false] (K.z (K.t (K.f (K.k (K.t (K.s (K.g (K.q [K.pa p, K.pa p, .pointer (some ⟨p, 5, none⟩)] ?_))))))))
  refine K.d (K.iv S.slot) ((hS.blk 0 rfl hgp).cell rfl) ?_
  refine K.q [K.iv S.slot] (K.z (K.t (K.r ?_)))
  refine ⟨.inr rfl, rfl, (K.iv S.slot), K.res1 rfl rfl, [gp], ?_, hS.pick [0, 1]⟩
  exact ⟨congrArg (Value.int .i64) (if_pos (by omega)).symm, rfl⟩
 ·
  refine K.yn (S.pc : Int) (4 : Int) h_1 ?_
  refine K.q [.bool true] (K.z (K.t (K.h (K.s (K.g (K.q [K.iv (-1)] (K.z (K.t (K.r (K.u ?_))))))))))
  refine ⟨.inr rfl, rfl, (K.iv (-1)), K.res1 rfl rfl, [gp], ?_, hS.pick [0, 1]⟩
  exact ⟨congrArg (Value.int .i64) (if_neg (by omega)).symm, rfl⟩
set_option maxHeartbeats 1000000 in
set_option maxRecDepth 100000 in
theorem recHolds_nil (w0 : World)  :
  K.GC Tryz.prog w0 99 #[.pointer none] [] (fun v post => v = K.iv (-1) ∧ post = []) := by
 refine K.GC.mk (n := 17) Tryz.func99 rfl rfl [.pointer none] rfl rfl ?_
 intro fr w hS
 replace hS : K.Sat w0 [fr] w := hS
 refine K.s (K.g (K.q [K.iv 0] (K.z (K.t (K.s (K.s (K.g (K.q [.pointer none, .bool true, .bool true] (K.n_ (K.n_ (K.n_ (K.n_ (K.n_ (K.n_ ?_))))))))))))))
 refine K.q [.bool true] (K.z (K.t (K.h (K.s (K.g (K.q [K.iv (-1)] (K.z (K.t (K.r (K.u ?_))))))))))
 refine ⟨.inr rfl, rfl, (K.iv (-1)), K.res1 rfl rfl, [], ?_, hS.pick [0]⟩
 exact ⟨rfl, rfl⟩
set_option maxHeartbeats 1000000 in
set_option maxRecDepth 100000 in
theorem recOld_ok (w0 : World) (p b : Nat) (a : Option Addr) (S : RecS) (gp : K.Cs) (hgp : gp = recPt p b a S) (w_ : Int) (hw : isW w_) (hn : isW S.now) :
  K.GC Tryz.prog w0 229 #[K.pa p, .int .u64 w_] [gp] (fun v post => post = [gp] ∧ ((v = .bool true ∧ recOld S.now w_) ∨ (v = .bool false ∧ ¬ recOld S.now w_))) := by
 have hr1 := stampI_rng w_
 have hn2 := hn
 unfold isW at hn2
 refine K.GC.mk (n := 32) Tryz.func229 rfl rfl [K.pa p, .int .u64 w_] rfl rfl ?_
 intro fr w hS
 replace hS : K.Sat w0 [gp, fr] w := hS
 refine K.s (K.g (K.q [.bool false] (K.z (K.t (K.s (K.g (K.q [.int .u64 w_] ?_)))))))
 refine K.l (K.OW.gcall hS [] [0, 1] [.int .u64 w_] (stamp_ok _ w_ (by first | assumption | (unfold isW; omega))) ?_)
 clear hS; rintro _ _ w ⟨rfl, rfl⟩ hS
 replace hS : K.Sat w0 [gp, fr] w := hS
 refine K.q [K.iv (stampI w_)] (K.z (K.t (K.s (K.g (K.q [.int .u64 w_] ?_)))))
 refine K.l (K.OW.gcall hS [] [0, 1] [.int .u64 w_] (to_ok _ w_ (by first | assumption | (unfold isW; omega))) ?_)
 clear hS; rintro _ _ w ⟨rfl, rfl⟩ hS
 replace hS : K.Sat w0 [gp, fr] w := hS
 by_cases h_1 : ((toI w_) : Int) = ((-1) : Int)
 ·
  refine K.xn ((toI w_) : Int) ((-1) : Int) h_1 ?_
  refine K.q [.bool false] (K.n_ (K.n_ (K.q [.bool false, .bool false] (K.n_ (K.n_ (K.n_ (K.n_ (K.n_ (K.q [.bool false, .bool false] (K.n_ (K.n_ (K.n_ (K.n_ (K.n_ ?_))))))))))))))
  refine K.n_ (K.n_ (K.n_ (K.q [.bool false, .bool false] (K.z (K.t (K.r ?_))))))
  refine ⟨.inr rfl, rfl, (.bool false), K.res1 rfl rfl, [gp], ?_, hS.pick [0, 1]⟩
  exact ⟨rfl, .inr ⟨rfl, by unfold recOld; omega⟩⟩
 ·
  refine K.yn ((toI w_) : Int) ((-1) : Int) h_1 ?_
  refine K.q [.bool true, K.iv (stampI w_)] ?_
  by_cases h_2 : ((stampI w_) : Int) = ((-1) : Int)
  ·
   refine K.xn ((stampI w_) : Int) ((-1) : Int) h_2 ?_
   refine K.q [.bool false, .bool false] (K.n_ (K.n_ (K.n_ (K.n_ (K.n_ (K.q [.bool false, .bool false] (K.n_ (K.n_ (K.n_ (K.n_ (K.n_ (K.n_ (K.n_ (K.n_ ?_))))))))))))))
   refine K.q [.bool false, .bool false] (K.z (K.t (K.r ?_)))
   refine ⟨.inr rfl, rfl, (.bool false), K.res1 rfl rfl, [gp], ?_, hS.pick [0, 1]⟩
   exact ⟨rfl, .inr ⟨rfl, by unfold recOld; omega⟩⟩
  ·
   refine K.yn ((stampI w_) : Int) ((-1) : Int) h_2 ?_
   refine K.q [.bool true, .bool true, K.pa p, K.pa p, .pointer (some ⟨p, 3, none⟩)] ?_
   refine K.d (.int .u64 S.now) ((hS.blk 0 rfl hgp).cell rfl) ?_
   by_cases h_3 : (S.now : Int) ≥ (2 : Int)
   ·
    refine K.y ((S.now : Int) ≥ (2 : Int)) h_3 ?_
    refine K.q [.bool true, .bool true, K.iv (stampI w_)] ?_
    refine K.a (K.QR.nice (v := .int .u64 (IntKind.u64.wrap (stampI w_))) (by kernel_rfl) (congrArg (Value.int .u64) (IntWalk.u64_in _ (by omega)))) ?_
    refine K.q [K.pa p, K.pa p, .pointer (some ⟨p, 3, none⟩)] ?_
    refine K.d (.int .u64 S.now) ((hS.blk 0 rfl hgp).cell rfl) ?_
    refine K.a (K.QR.nu64 ((S.now : Int) - (2 : Int)) ((S.now : Int) - (2 : Int)) (by kernel_rfl) (by omega)) ?_
    by_cases h_4 : ((stampI w_) : Int) ≤ ((S.now : Int) - (2 : Int) : Int)
    ·
     refine K.y (((stampI w_) : Int) ≤ ((S.now : Int) - (2 : Int) : Int)) h_4 ?_
     refine K.q [.bool true, .bool true] (K.z (K.t (K.r ?_)))
     refine ⟨.inr rfl, rfl, (.bool true), K.res1 rfl rfl, [gp], ?_, hS.pick [0, 1]⟩
     exact ⟨rfl, .inl ⟨rfl, by unfold recOld; omega⟩⟩
    ·
     refine K.x (((stampI w_) : Int) ≤ ((S.now : Int) - (2 : Int) : Int)) h_4 ?_
     refine K.q [.bool false, .bool false] (K.z (K.t (K.r ?_)))
     refine ⟨.inr rfl, rfl, (.bool false), K.res1 rfl rfl, [gp], ?_, hS.pick [0, 1]⟩
     exact ⟨rfl, .inr ⟨rfl, by unfold recOld; omega⟩⟩
   ·
    refine K.x ((S.now : Int) ≥ (2 : Int)) h_3 ?_
    refine K.q [.bool false, .bool false] (K.n_ (K.n_ (K.n_ (K.n_ (K.n_ (K.n_ (K.n_ (K.n_ (K.q [.bool false, .bool false] (K.z (K.t (K.r ?_))))))))))))
    refine ⟨.inr rfl, rfl, (.bool false), K.res1 rfl rfl, [gp], ?_, hS.pick [0, 1]⟩
    exact ⟨rfl, .inr ⟨rfl, by unfold recOld; omega⟩⟩
set_option maxHeartbeats 1000000 in
set_option maxRecDepth 100000 in
theorem recRest_ok (w0 : World) (p b : Nat) (c : Cfg) (hc : cfgOk c) (a : Option Addr) (S : RecS) (gp gl : K.Cs) (hgp : gp = recPt p b a S) (hgl : gl = layPt b c) :
  K.GC Tryz.prog w0 222 #[K.pa p] [gp, gl] (fun v post => ∃ gp', v = .tuple #[] ∧ post = [gp', gl] ∧ gp' = recPt p b a ⟨S.t, if S.pc = 1 ∧ ¬ S.next < c.lo then 5 else S.pc, S.now, S.next, S.slot, S.count, S.push⟩) := by
 refine K.GC.mk (n := 26) Tryz.func222 rfl rfl [K.pa p] rfl rfl ?_
 intro fr w hS
 replace hS : K.Sat w0 [gp, gl, fr] w := hS
 refine K.s ?_
 refine K.KW.gdrawn [0] hS (by kernel_rfl) ?_
 clear hS; intro w hS
 refine K.b 0 rfl (K.pa p) (hS.pick [0]) ?_
 refine K.b 1 rfl (K.pa p) (hS.pick [0]) ?_
 refine K.b 2 rfl (K.pa p) (hS.pick [0]) ?_
 refine K.b 3 rfl (.pointer (some ⟨p, 2, none⟩)) (hS.pick [0]) ?_
 refine K.c 4 rfl (K.QR.ld1 (v := K.iv S.pc) rfl rfl (by kernel_rfl) ((hS.blk 0 rfl hgp).cell rfl)) (hS.pick [0]) ?_
 by_cases h_1 : (S.pc : Int) = (1 : Int)
 ·
  refine K.c 5 rfl (K.QR.nice (v := .bool ((S.pc : Int) == (1 : Int))) (by kernel_rfl) (congrArg Value.bool (beq_iff_eq.2 h_1))) (hS.pick [0]) ?_
  refine K.b 6 rfl (.bool true) (hS.pick [0]) ?_
  refine K.p 7 rfl (K.pa p) (hS.pick [0]) ?_
  refine K.p 8 rfl (K.pa p) (hS.pick [0]) ?_
  refine K.p 9 rfl (.pointer (some ⟨p, 4, none⟩)) (hS.pick [0]) ?_
  refine K.o_ 10 rfl (K.iv S.next) (fun w hS => ((hS.blk 0 rfl hgp).cell rfl)) (hS.pick [0]) ?_
  refine K.b 11 rfl (K.pa p) (hS.pick [0]) ?_
  refine K.b 12 rfl (K.pa p) (hS.pick [0]) ?_
  refine K.b 13 rfl (K.pa p) (hS.pick [0]) ?_
  refine K.b 14 rfl (K.pa p) (hS.pick [0]) ?_
  refine K.c 15 rfl (K.QR.ld1 (v := K.pa b) rfl rfl (by kernel_rfl) ((hS.blk 0 rfl hgp).cell rfl)) (hS.pick [0]) ?_
  refine K.DW.l 16 rfl (by kernel_rfl) (by kernel_rfl) (K.OW.kcall hS [K.pa b] (lConfig _ c  _ (by assumption) (hS.blk 1 rfl hgl)) ?_)
  rintro _ w ⟨rfl, c_2⟩
  replace hS := hS.no c_2
  refine ⟨.inl (hS.pick [0]), ?_⟩
  refine K.b 17 rfl (K.iv c.lo) (hS.pick [0]) ?_
  by_cases h_3 : (S.next : Int) ≥ (c.lo : Int)
  ·
   refine K.c 18 rfl (K.QR.nice (v := .bool (decide ((S.next : Int) ≥ (c.lo : Int)))) (by kernel_rfl) (congrArg Value.bool (decide_eq_true h_3))) (hS.pick [0]) ?_
   refine K.b 19 rfl (.bool true) (hS.pick [0]) ?_
   refine K.DW.done (by kernel_rfl) ?_
   refine K.t (K.h (K.g (K.q [K.pa p, K.pa p, K.pa p, .pointer (some ⟨p, 2, none⟩)] ?_)))
   refine K.l (K.OW.gst 0 [K.iv 5] _ hS hgp ?_)
   clear hS; intro w g_4 hg_5 hS
   replace hS : K.Sat w0 [g_4, gl, fr] w := hS
   refine K.z ?_
   refine ⟨.inl rfl, rfl, (.tuple #[]), K.res0 rfl, [g_4, gl], ?_, hS.pick [0, 1, 2]⟩
   exact ⟨_, rfl, rfl, by rw [if_pos (by omega)]; exact hg_5⟩
  ·
   refine K.c 18 rfl (K.QR.nice (v := .bool (decide ((S.next : Int) ≥ (c.lo : Int)))) (by kernel_rfl) (congrArg Value.bool (decide_eq_false h_3))) (hS.pick [0]) ?_
   refine K.b 19 rfl (.bool false) (hS.pick [0]) ?_
   refine K.DW.done (by kernel_rfl) ?_
   refine K.t (K.f (K.k ?_))
   refine ⟨.inl rfl, rfl, (.tuple #[]), K.res0 rfl, [gp, gl], ?_, hS.pick [0, 1, 2]⟩
   exact ⟨_, rfl, rfl, by rw [if_neg (by omega)]; exact hgp⟩
 ·
  refine K.c 5 rfl (K.QR.nice (v := .bool ((S.pc : Int) == (1 : Int))) (by kernel_rfl) (congrArg Value.bool (beq_eq_false_iff_ne.2 h_1))) (hS.pick [0]) ?_
  refine K.b 6 rfl (.bool false) (hS.pick [0]) ?_
  refine K.w_ 7 rfl (hS.pick [0]) ?_
  refine K.w_ 8 rfl (hS.pick [0]) ?_
  refine K.w_ 9 rfl (hS.pick [0]) ?_
  refine K.w_ 10 rfl (hS.pick [0]) ?_
  refine K.w_ 11 rfl (hS.pick [0]) ?_
  refine K.w_ 12 rfl (hS.pick [0]) ?_
  refine K.w_ 13 rfl (hS.pick [0]) ?_
  refine K.w_ 14 rfl (hS.pick [0]) ?_
  refine K.w_ 15 rfl (hS.pick [0]) ?_
  refine K.w_ 16 rfl (hS.pick [0]) ?_
  refine K.w_ 17 rfl (hS.pick [0]) ?_
  refine K.w_ 18 rfl (hS.pick [0]) ?_
  refine K.b 19 rfl (.bool false) (hS.pick [0]) ?_
  refine K.DW.done (by kernel_rfl) ?_
  refine K.t (K.f (K.k ?_))
  refine ⟨.inl rfl, rfl, (.tuple #[]), K.res0 rfl, [gp, gl], ?_, hS.pick [0, 1, 2]⟩
  exact ⟨_, rfl, rfl, by rw [if_neg (by omega)]; exact hgp⟩
theorem onPc_eq {c : Cfg} {pc x : Int} (h : pc = 1) : (if pc = 1 ∧ ¬ x < c.lo then 5 else pc) = onPc c x := by
 subst h; unfold onPc
 by_cases hx : x < c.lo
 ·rw [if_pos hx, if_neg (fun h => h.2 hx)]
 ·rw [if_neg hx, if_pos ⟨rfl, hx⟩]
set_option maxHeartbeats 1000000 in
set_option maxRecDepth 100000 in
theorem recLook_ok (w0 : World) (p b pm q n t : Nat) (c : Cfg) (hc : cfgOk c) (a : Option Addr) (S : RecS) (M : MemM) (gp gl l : K.Cs) (hgp : gp = recPt p b a S) (hgl : gl = layPt b c) (x : MemAt l pm q n t M) (hM : M.good) (hS : S.good c) (hp1 : S.pc = 1) (hlt : S.next < c.lo) :
  K.GC Tryz.prog w0 220 #[K.pa p, K.pa pm] [gp, gl, l] (fun v post => ∃ gp' l', v = .tuple #[] ∧ post = [gp', gl, l'] ∧ gp' = recPt p b a (recLook c n S M).1 ∧ MemAt l' pm q n t (recLook c n S M).2) := by
 have hS0 := hS
 obtain ⟨hSt, hSw, hSs, hSx, hSc, hSp⟩ := hS
 have hcc := hc
 unfold cfgOk at hcc
 refine K.GC.mkD (n := 55) Tryz.func220 rfl rfl [K.pa p, K.pa pm] rfl rfl ?_
 intro fr w hS
 replace hS : K.Sat w0 [gp, gl, l, fr] w := hS
 refine K.s (K.g ?_)
 refine K.l (K.OW.gnew 166 [K.pa p] hS ?_)
 clear hS; intro w r_1 g_2 hg_3 hS
 refine K.l (K.OW.gnew 33 [K.pa pm] hS ?_)
 clear hS; intro w r_4 g_5 hg_6 hS
 refine K.z (K.t (K.s (K.s ?_)))
 refine K.KW.gdrawn [1, 2] hS (by kernel_rfl) ?_
 clear hS; intro w hS
 refine K.o_ 0 rfl (K.pa p) (fun w hS => ((hS.blk 0 rfl hg_3).cell rfl)) (hS.pick [1, 2]) ?_
 refine K.p 1 rfl (K.pa p) (hS.pick [1, 2]) ?_
 refine K.p 2 rfl (K.pa p) (hS.pick [1, 2]) ?_
 refine K.p 3 rfl (K.pa p) (hS.pick [1, 2]) ?_
 refine K.o_ 4 rfl (K.pa b) (fun w hS => ((hS.blk 1 rfl hgp).cell rfl)) (hS.pick [1, 2]) ?_
 refine K.c 5 rfl (K.QR.ld1 (v := K.pa p) rfl rfl (by kernel_rfl) ((hS.blk 1 rfl hg_3).cell rfl)) (hS.pick [1, 2]) ?_
 refine K.b 6 rfl (K.pa p) (hS.pick [1, 2]) ?_
 refine K.b 7 rfl (.pointer (some ⟨p, 4, none⟩)) (hS.pick [1, 2]) ?_
 refine K.c 8 rfl (K.QR.ld1 (v := K.iv S.next) rfl rfl (by kernel_rfl) ((hS.blk 2 rfl hgp).cell rfl)) (hS.pick [1, 2]) ?_
 refine K.DW.l 9 rfl (by kernel_rfl) rfl (K.OW.gcall hS [] [0, 1, 2, 3, 4, 5] [K.pa b, K.iv S.next] (ents_ok _ b S.next) ?_)
 clear hS; rintro _ _ w ⟨b_7, d_8, g_9, h_10, rfl, rfl, x_11, y_12⟩ hS
 replace hS : K.Sat w0 [g_9, h_10, g_5, g_2, gp, gl, l, fr] w := hS
 refine ⟨.inl (hS.pick [3, 4]), ?_⟩
 refine K.DW.done (by kernel_rfl) ?_
 refine K.t ?_
 refine K.KW.block ?_
 refine K.KW.grange (first := []) (cap := [K.pa b_7, K.pa d_8]) hS rfl (by kernel_rfl) rfl ?_
 clear hS; intro fid_13 w rd_14 lp_15 gd_16 gl_17 hgd_18 hgl_19 hS
 generalize hrec_21 : K.mkLoop _ _ _ _ _ _ _ = rec_20 at hgl_19
 by_cases h_22 : (S.next : Int) < (c.lo : Int)
 ·
  refine K.KC.oneS (yargs := [K.iv S.next]) hS [2, 3] [7, 0, 1, 4, 5, 6, 8, 9] (fun R hY => ents_one _ _ _ _ _ c (by assumption) S.next _ _ _ x_11 y_12 hgl h_22 _ ([gl_17, gd_16, g_5, g_2, gp, l, fr].flatten) (by simp [K.pick, K.nth]) R hY) ?_
  clear hS; intro fr_23 w hS
  replace hS : K.Sat w0 [gl, gl_17, gd_16, g_5, g_2, gp, l, fr, fr_23] w := hS.of (by simp [K.pick, K.nth])
  subst hrec_21
  refine K.YS.ground (n := 55) (ps := [16]) 1 hS rfl hgl_19 rfl rfl rfl rfl rfl ?_
  refine K.g (K.q [K.iv S.next] (K.z ?_))
  refine K.rb_g 1 hS rfl hgl_19 rfl ?_
  clear hS; intro w gl_24 hgl_25 hS
  replace hS : K.Sat w0 [gl, gl_24, gd_16, g_5, g_2, gp, l, fr, fr_23] w := hS
  refine K.KW.block ?_
  refine K.s (K.g ?_)
  refine K.d (K.pa p) ((hS.blk 4 rfl hg_3).cell rfl) ?_
  refine K.q [K.iv S.next] ?_
  refine K.a (K.QR.n64 ((S.next : Int) + (1 : Int)) ((S.next : Int) + (1 : Int)) (by kernel_rfl) (by omega)) ?_
  refine K.q [K.pa p, .pointer (some ⟨p, 4, none⟩)] ?_
  refine K.l (K.OW.gst 5 [K.iv ((S.next : Int) + (1 : Int))] _ hS hgp ?_)
  clear hS; intro w g_26 hg_27 hS
  replace hS : K.Sat w0 [gl, gl_24, gd_16, g_5, g_2, g_26, l, fr, fr_23] w := hS
  refine K.z (K.t (K.s ?_))
  refine K.KW.gdrawn [3, 4, 5] hS (by kernel_rfl) ?_
  clear hS; intro w hS
  refine K.o_ 0 rfl (K.pa pm) (fun w hS => ((hS.blk 0 rfl hg_6).cell rfl)) (hS.pick [3, 4, 5]) ?_
  refine K.o_ 1 rfl (K.pa p) (fun w hS => ((hS.blk 1 rfl hg_3).cell rfl)) (hS.pick [3, 4, 5]) ?_
  refine K.p 2 rfl (K.pa p) (hS.pick [3, 4, 5]) ?_
  refine K.p 3 rfl (K.pa p) (hS.pick [3, 4, 5]) ?_
  refine K.p 4 rfl (.pointer (some ⟨p, 1, none⟩)) (hS.pick [3, 4, 5]) ?_
  refine K.o_ 5 rfl (K.iv S.t) (fun w hS => ((hS.blk 2 rfl hg_27).cell rfl)) (hS.pick [3, 4, 5]) ?_
  refine K.o_ 6 rfl (K.pa p) (fun w hS => ((hS.blk 1 rfl hg_3).cell rfl)) (hS.pick [3, 4, 5]) ?_
  refine K.p 7 rfl (K.pa p) (hS.pick [3, 4, 5]) ?_
  refine K.p 8 rfl (K.pa p) (hS.pick [3, 4, 5]) ?_
  refine K.p 9 rfl (K.pa p) (hS.pick [3, 4, 5]) ?_
  refine K.o_ 10 rfl (K.pa b) (fun w hS => ((hS.blk 2 rfl hg_27).cell rfl)) (hS.pick [3, 4, 5]) ?_
  refine K.o_ 11 rfl (K.pa p) (fun w hS => ((hS.blk 1 rfl hg_3).cell rfl)) (hS.pick [3, 4, 5]) ?_
  refine K.p 12 rfl (K.pa p) (hS.pick [3, 4, 5]) ?_
  refine K.p 13 rfl (K.pa p) (hS.pick [3, 4, 5]) ?_
  refine K.p 14 rfl (.pointer (some ⟨p, 1, none⟩)) (hS.pick [3, 4, 5]) ?_
  refine K.o_ 15 rfl (K.iv S.t) (fun w hS => ((hS.blk 2 rfl hg_27).cell rfl)) (hS.pick [3, 4, 5]) ?_
  refine K.b 16 rfl (K.iv S.next) (hS.pick [3, 4, 5]) ?_
  refine K.DW.l 17 rfl (by kernel_rfl) rfl (K.OW.kcall hS [K.pa b, K.iv S.t, K.iv S.next] (lLog _ c S.t S.next _ (by assumption) (hS.blk 0 rfl hgl)) ?_)
  rintro _ w ⟨rfl, c_28⟩
  replace hS := hS.no c_28
  refine ⟨.inl (hS.pick [3, 4, 5]), ?_⟩
  refine K.DW.l 18 rfl (by kernel_rfl) rfl (K.OW.gcall hS [6] [0, 1, 2, 3, 4, 5, 7, 8] [K.pa pm, K.iv S.t, K.iv (logS c S.t S.next)] (mLoad_ok _ _ _ _ _ _ _ x S.t (logS c S.t S.next) (by first | omega | assumption | exact log_int (by assumption) _ _ | exact aft_int (by assumption) _ | exact ann_int (by assumption) _ (by omega)) ) ?_)
  clear hS; rintro _ _ w ⟨l_29, rfl, rfl, x_30⟩ hS
  replace hS : K.Sat w0 [l_29, gl, gl_24, gd_16, g_5, g_2, g_26, fr, fr_23] w := hS
  have hw_31 : isW (M.accL n S.t (logS c S.t S.next)).2.old := (accL_good (by assumption)).2
  refine ⟨.inl (hS.pick [4, 5, 6]), ?_⟩
  refine K.b 19 rfl (.int .u64 ((M.accL n S.t (logS c S.t S.next)).2.old)) (hS.pick [4, 5, 6]) ?_
  refine K.DW.done (by kernel_rfl) ?_
  refine K.t (K.s (K.s (K.g ?_)))
  refine K.d (K.pa p) ((hS.blk 5 rfl hg_3).cell rfl) ?_
  refine K.q [.int .u64 ((M.accL n S.t (logS c S.t S.next)).2.old)] ?_
  refine K.l (K.OW.gcall hS [6] [0, 1, 2, 3, 4, 5, 7, 8] [K.pa p, .int .u64 ((M.accL n S.t (logS c S.t S.next)).2.old)] (recOld_ok _ _ _ _ ⟨S.t, S.pc, S.now, (S.next : Int) + (1 : Int), S.slot, S.count, S.push⟩ _ hg_27 ((M.accL n S.t (logS c S.t S.next)).2.old) (by first | assumption | (unfold isW; omega)) (by assumption)) ?_)
  clear hS; rintro _ _ w ⟨rfl, (⟨rfl, h_32⟩ | ⟨rfl, h_33⟩)⟩ hS
  ·
   replace hS : K.Sat w0 [g_26, l_29, gl, gl_24, gd_16, g_5, g_2, fr, fr_23] w := hS
   replace h_32 : recOld S.now ((M.accL n S.t (logS c S.t S.next)).2.old) := h_32
   refine K.z (K.t (K.h ?_))
   refine K.KW.gdrawn [6] hS (by kernel_rfl) ?_
   clear hS; intro w hS
   refine K.o_ 0 rfl (K.pa p) (fun w hS => ((hS.blk 0 rfl hg_3).cell rfl)) (hS.pick [6]) ?_
   refine K.o_ 1 rfl (K.pa p) (fun w hS => ((hS.blk 0 rfl hg_3).cell rfl)) (hS.pick [6]) ?_
   refine K.b 2 rfl (.int .u64 ((M.accL n S.t (logS c S.t S.next)).2.old)) (hS.pick [6]) ?_
   refine K.DW.l 3 rfl (by kernel_rfl) rfl (K.OW.gcall hS [] [0, 1, 2, 3, 4, 5, 6, 7, 8] [.int .u64 ((M.accL n S.t (logS c S.t S.next)).2.old)] (to_ok _ ((M.accL n S.t (logS c S.t S.next)).2.old) (by first | assumption | (unfold isW; omega))) ?_)
   clear hS; rintro _ _ w ⟨rfl, rfl⟩ hS
   replace hS : K.Sat w0 [g_26, l_29, gl, gl_24, gd_16, g_5, g_2, fr, fr_23] w := hS
   refine ⟨.inl (hS.pick [6]), ?_⟩
   refine K.b 4 rfl (K.pa p) (hS.pick [6]) ?_
   refine K.b 5 rfl (.pointer (some ⟨p, 5, none⟩)) (hS.pick [6]) ?_
   refine K.DW.l 6 rfl (by kernel_rfl) rfl (K.OW.gst 0 [K.iv (toI ((M.accL n S.t (logS c S.t S.next)).2.old))] _ hS hg_27 ?_)
   clear hS; intro w g_34 hg_35 hS
   replace hS : K.Sat w0 [g_34, l_29, gl, gl_24, gd_16, g_5, g_2, fr, fr_23] w := hS
   refine ⟨.inl (hS.pick [6]), ?_⟩
   refine K.b 7 rfl (K.pa p) (hS.pick [6]) ?_
   refine K.b 8 rfl (K.pa p) (hS.pick [6]) ?_
   refine K.b 9 rfl (.pointer (some ⟨p, 2, none⟩)) (hS.pick [6]) ?_
   refine K.DW.l 10 rfl (by kernel_rfl) rfl (K.OW.gst 0 [K.iv 2] _ hS hg_35 ?_)
   clear hS; intro w g_36 hg_37 hS
   replace hS : K.Sat w0 [g_36, l_29, gl, gl_24, gd_16, g_5, g_2, fr, fr_23] w := hS
   refine ⟨.inl (hS.pick [6]), ?_⟩
   refine K.DW.done (by kernel_rfl) ?_
   refine K.t ?_
   refine K.KW.exit ?_
   refine K.blk_miss rfl ?_
   refine K.rq_exit_g 3 hS rfl hgl_25 ?_
   clear hS; intro w gl_38 hgl_39 hS
   replace hS : K.Sat w0 [g_36, l_29, gl, gl_38, gd_16, g_5, g_2, fr, fr_23] w := hS
   refine ⟨rfl, [g_36, l_29, gl, gl_38, gd_16, g_5, g_2, fr].flatten, ?_, (hS.pick [0, 1, 2, 3, 4, 5, 6, 7, 8]).of (by simp [K.pick, K.nth])⟩
   clear hS; intro _ w hS
   replace hS : K.Sat w0 [g_9, h_10, g_36, l_29, gl, gl_38, gd_16, g_5, g_2, fr] w := hS.of (by simp [K.pick, K.nth])
   refine K.gafter 5 [0, 1, 2, 3, 4, 6, 7, 8, 9] hS rfl hgl_39 (fun h => by cases h) ?_
   clear hS; intro w hS
   replace hS : K.Sat w0 [g_9, h_10, g_36, l_29, gl, gd_16, g_5, g_2, fr] w := hS
   refine K.afterR_exit rfl ?_
   refine K.blk_hit ?_
   refine K.t (K.g ?_)
   refine K.d (K.pa p) ((hS.blk 7 rfl hg_3).cell rfl) ?_
   refine K.l (K.OW.gcall hS [2, 4] [0, 1, 3, 5, 6, 7, 8] [K.pa p] (recRest_ok _ _ _ c (by first | assumption | (unfold cfgOk; decide)) _ ⟨S.t, 2, S.now, (S.next : Int) + (1 : Int), (toI ((M.accL n S.t (logS c S.t S.next)).2.old)), S.count, S.push⟩ _ _ hg_37 hgl) ?_)
   clear hS; rintro _ _ w ⟨g_40, rfl, rfl, h_41⟩ hS
   replace hS : K.Sat w0 [g_40, gl, g_9, h_10, l_29, gd_16, g_5, g_2, fr] w := hS
   refine K.z ?_
   refine ⟨.inl rfl, .inr ⟨_, rfl, K.endD 5 [0, 1, 2, 3, 4, 6, 7, 8] hS rfl hgd_18 ?_⟩⟩
   clear hS; intro w hS
   replace hS : K.Sat w0 [g_40, gl, g_9, h_10, l_29, g_5, g_2, fr] w := hS
   have hho := h_32
   have e : recLook c n S M = (⟨S.t, 2, S.now, S.next + 1, toI (recLd c n S M).2.old, S.count, S.push⟩, (recLd c n S M).1) := if_pos hho
   refine ⟨(.tuple #[]), K.res0 rfl, [g_40, gl, l_29], ?_, hS.pick [0, 1, 4, 7]⟩
   exact ⟨_, _, rfl, rfl, by rw [e]; have h := h_41; rw [if_neg (fun hh => absurd (show (2 : Int) = 1 from hh.1) (by decide))] at h; exact h, by rw [e]; exact x_30⟩
  ·
   replace hS : K.Sat w0 [g_26, l_29, gl, gl_24, gd_16, g_5, g_2, fr, fr_23] w := hS
   replace h_33 : ¬ recOld S.now ((M.accL n S.t (logS c S.t S.next)).2.old) := h_33
   refine K.z (K.t (K.f (K.k (K.t ?_))))
   refine K.KW.exit ?_
   refine K.blk_miss rfl ?_
   refine K.rq_exit_g 3 hS rfl hgl_25 ?_
   clear hS; intro w gl_42 hgl_43 hS
   replace hS : K.Sat w0 [g_26, l_29, gl, gl_42, gd_16, g_5, g_2, fr, fr_23] w := hS
   refine ⟨rfl, [g_26, l_29, gl, gl_42, gd_16, g_5, g_2, fr].flatten, ?_, (hS.pick [0, 1, 2, 3, 4, 5, 6, 7, 8]).of (by simp [K.pick, K.nth])⟩
   clear hS; intro _ w hS
   replace hS : K.Sat w0 [g_9, h_10, g_26, l_29, gl, gl_42, gd_16, g_5, g_2, fr] w := hS.of (by simp [K.pick, K.nth])
   refine K.gafter 5 [0, 1, 2, 3, 4, 6, 7, 8, 9] hS rfl hgl_43 (fun h => by cases h) ?_
   clear hS; intro w hS
   replace hS : K.Sat w0 [g_9, h_10, g_26, l_29, gl, gd_16, g_5, g_2, fr] w := hS
   refine K.afterR_exit rfl ?_
   refine K.blk_hit ?_
   refine K.t (K.g ?_)
   refine K.d (K.pa p) ((hS.blk 7 rfl hg_3).cell rfl) ?_
   refine K.l (K.OW.gcall hS [2, 4] [0, 1, 3, 5, 6, 7, 8] [K.pa p] (recRest_ok _ _ _ c (by first | assumption | (unfold cfgOk; decide)) _ ⟨S.t, S.pc, S.now, (S.next : Int) + (1 : Int), S.slot, S.count, S.push⟩ _ _ hg_27 hgl) ?_)
   clear hS; rintro _ _ w ⟨g_44, rfl, rfl, h_45⟩ hS
   replace hS : K.Sat w0 [g_44, gl, g_9, h_10, l_29, gd_16, g_5, g_2, fr] w := hS
   refine K.z ?_
   refine ⟨.inl rfl, .inr ⟨_, rfl, K.endD 5 [0, 1, 2, 3, 4, 6, 7, 8] hS rfl hgd_18 ?_⟩⟩
   clear hS; intro w hS
   replace hS : K.Sat w0 [g_44, gl, g_9, h_10, l_29, g_5, g_2, fr] w := hS
   have hho := h_33
   have e : recLook c n S M = (⟨S.t, onPc c (S.next + 1), S.now, S.next + 1, S.slot, S.count, S.push⟩, (recLd c n S M).1) := if_neg hho
   refine ⟨(.tuple #[]), K.res0 rfl, [g_44, gl, l_29], ?_, hS.pick [0, 1, 4, 7]⟩
   exact ⟨_, _, rfl, rfl, by rw [e]; have h := h_45; rw [onPc_eq (by omega)] at h; exact h, by rw [e]; exact x_30⟩
 ·
  refine K.KC.ofG hS [2, 3, 7] [0, 1, 4, 5, 6, 8, 9] (ents_stop _ _ _ _ _ c (by assumption) S.next _ _ _ x_11 y_12 hgl h_22) ?_
  clear hS; rintro _ _ w rfl hS
  replace hS : K.Sat w0 [g_9, h_10, gl, gl_17, gd_16, g_5, g_2, gp, l, fr] w := hS
  subst hrec_21
  refine K.gafter 3 [0, 1, 2, 4, 5, 6, 7, 8, 9] hS rfl hgl_19 (fun h => by cases h) ?_
  clear hS; intro w hS
  replace hS : K.Sat w0 [g_9, h_10, gl, gd_16, g_5, g_2, gp, l, fr] w := hS
  refine K.afterR_none rfl ?_
  refine K.blk_normal ?_
  refine K.t (K.g ?_)
  refine K.d (K.pa p) ((hS.blk 5 rfl hg_3).cell rfl) ?_
  refine K.l (K.OW.gcall hS [6, 2] [0, 1, 3, 4, 5, 7, 8] [K.pa p] (recRest_ok _ _ _ c (by first | assumption | (unfold cfgOk; decide)) _ ⟨S.t, S.pc, S.now, S.next, S.slot, S.count, S.push⟩ _ _ hgp hgl) ?_)
  clear hS; rintro _ _ w ⟨g_46, rfl, rfl, h_47⟩ hS
  replace hS : K.Sat w0 [g_46, gl, g_9, h_10, gd_16, g_5, g_2, l, fr] w := hS
  refine K.z ?_
  refine ⟨.inl rfl, .inr ⟨_, rfl, K.endD 4 [0, 1, 2, 3, 5, 6, 7, 8] hS rfl hgd_18 ?_⟩⟩
  clear hS; intro w hS
  replace hS : K.Sat w0 [g_46, gl, g_9, h_10, g_5, g_2, l, fr] w := hS
  refine ⟨(.tuple #[]), K.res0 rfl, [g_46, gl, l], ?_, hS.pick [0, 1, 6, 7]⟩
  exact absurd hlt (by omega)
set_option maxHeartbeats 1000000 in
set_option maxRecDepth 100000 in
theorem newpush_ok (w0 : World) (b : Nat) (tt sl : Int) :
  K.GC Tryz.prog w0 103 #[K.pa b, K.iv tt, K.iv sl] [] (fun v post => ∃ p g, v = K.pa p ∧ post = [g] ∧ g = pushPt p b ⟨tt, 0, 0, sl⟩) := by
 refine K.GC.mk (n := 13) Tryz.func103 rfl rfl [K.pa b, K.iv tt, K.iv sl] rfl rfl ?_
 intro fr w hS
 replace hS : K.Sat w0 [fr] w := hS
 refine K.s (K.g (K.q [.pointer none] (K.z (K.t (K.s (K.g (K.q [K.pa b, K.iv tt] ?_)))))))
 refine K.a (K.QR.bd [(0, K.pa b), (1, K.iv tt)] [K.pa b, K.iv tt, K.iv 0] rfl rfl (by kernel_rfl)) ?_
 refine K.q [K.iv sl] ?_
 refine K.a (K.QR.bd [(0, .agg #[K.pa b, K.iv tt, K.iv 0]), (2, K.iv sl)] [K.pa b, K.iv tt, K.iv 0, .int .u64 0, K.iv sl] rfl rfl (by kernel_rfl)) ?_
 refine K.l (K.OW.gnew 218 [K.pa b, K.iv tt, K.iv 0, .int .u64 0, K.iv sl] hS ?_)
 clear hS; intro w r_1 g_2 hg_3 hS
 refine K.q [K.pa r_1] (K.z (K.t (K.r ?_)))
 refine ⟨.inr rfl, rfl, (K.pa r_1), K.res1 rfl rfl, [g_2], ?_, hS.pick [0, 1]⟩
 exact ⟨_, _, rfl, rfl, hg_3⟩
theorem pushStep2_ok (w0 : World) (p b pm q n t : Nat) (c : Cfg) (hc : cfgOk c) (S : PushS) (M : MemM) (gp gl l : K.Cs) (hgp : gp = pushPt p b S) (hgl : gl = layPt b c) (x : MemAt l pm q n t M) (hM : M.good) (hS : S.good) :
  K.GC Tryz.prog w0 104 #[K.pa p, K.pa pm] [gp, gl, l] (fun v post => ∃ gp' l', post = [gp', gl, l'] ∧ gp' = pushPt p b (pushStep c n S M).1 ∧ MemAt l' pm q n t (pushStep c n S M).2 ∧ ((v = .bool true ∧ (pushStep c n S M).1.pc = 3) ∨ (v = .bool false ∧ ¬ (pushStep c n S M).1.pc = 3))) := by
 refine (pushStep_ok w0 p b pm q n t c hc S M gp gl l hgp hgl x hM hS).mono ?_
 rintro v post ⟨gp', l', rfl, rfl, h1, h2⟩
 refine ⟨gp', l', rfl, h1, h2, ?_⟩
 by_cases h : (pushStep c n S M).1.pc = 3
 ·exact .inl ⟨congrArg Value.bool (decide_eq_true h), h⟩
 ·exact .inr ⟨congrArg Value.bool (decide_eq_false h), h⟩
set_option maxHeartbeats 1000000 in
set_option maxRecDepth 100000 in
theorem recStepA_ok (w0 : World) (p b pm q n t : Nat) (c : Cfg) (hc : cfgOk c) (a : Option Addr) (S : RecS) (M : MemM) (gp gl l : K.Cs) (hgp : gp = recPt p b a S) (hgl : gl = layPt b c) (x : MemAt l pm q n t M) (hM : M.good) (hS : S.good c) (hp : ¬ S.pc = 2 ∧ ¬ S.pc = 4) :
  K.GC Tryz.prog w0 209 #[K.pa p, K.pa pm] [gp, gl, l] (fun v post => ∃ gp' l', v = .bool (recStep c n S M).1.done ∧ post = [gp', gl, l'] ∧ gp' = recPt p b a (recStep c n S M).1 ∧ MemAt l' pm q n t (recStep c n S M).2) := by
 have hS0 := hS
 obtain ⟨hSt, hSw, hSs, hSx, hSc, hSp⟩ := hS
 have hcc := hc
 unfold cfgOk at hcc
 refine K.GC.mk (n := 111) Tryz.func209 rfl rfl [K.pa p, K.pa pm] rfl rfl ?_
 intro fr w hS
 replace hS : K.Sat w0 [gp, gl, l, fr] w := hS
 refine K.s (K.g (K.q [.bool false] (K.z (K.t (K.s (K.s (K.g (K.q [K.pa p] ?_))))))))
 refine K.l (K.OW.gcall hS [0] [1, 2, 3] [K.pa p] (recDone_ok _ _ _ _ ⟨S.t, S.pc, S.now, S.next, S.slot, S.count, S.push⟩ _ hgp) ?_)
 clear hS; rintro _ _ w ⟨rfl, (⟨rfl, h_1⟩ | ⟨rfl, h_2⟩)⟩ hS
 ·
  replace hS : K.Sat w0 [gp, gl, l, fr] w := hS
  replace h_1 : S.pc = 5 := h_1
  refine K.z (K.t (K.h (K.s (K.g (K.q [.bool true] (K.z (K.t (K.r (K.u ?_)))))))))
  have e : recStep c n S M = (S, M) := by unfold recStep; rw [if_pos (by omega)]
  refine ⟨.inr rfl, rfl, (.bool true), K.res1 rfl rfl, [gp, gl, l], ?_, hS.pick [0, 1, 2, 3]⟩
  exact ⟨_, _, by rw [e]; exact congrArg Value.bool (decide_eq_true (by show S.pc = (5 : Int); omega)).symm, rfl, by rw [e]; exact hgp, by rw [e]; exact x⟩
 ·
  replace hS : K.Sat w0 [gp, gl, l, fr] w := hS
  replace h_2 : ¬ S.pc = 5 := h_2
  refine K.z (K.t (K.f (K.k (K.t (K.s (K.s (K.g (K.q [K.pa p, K.pa p, K.pa p, .pointer (some ⟨p, 2, none⟩)] ?_))))))))
  refine K.d (K.iv S.pc) ((hS.blk 0 rfl hgp).cell rfl) ?_
  refine K.z (K.t ?_)
  refine K.KW.block ?_
  refine K.s (K.g ?_)
  by_cases h_3 : (S.pc : Int) = (0 : Int)
  ·
   refine K.ye (S.pc : Int) (0 : Int) h_3 ?_
   refine K.q [.bool true] (K.z (K.t (K.h ?_)))
   refine K.KW.gdrawnC [] (fun w => w.cell? ⟨p, 1, none⟩ = some (K.iv S.t)) hS (by kernel_rfl) ?_
   clear hS; intro w hS
   refine K.p 0 rfl (K.pa p) ⟨hS.pick [], (hS.blk 0 rfl hgp).cell rfl⟩ ?_
   refine K.p 1 rfl (K.pa p) ⟨hS.pick [], (hS.blk 0 rfl hgp).cell rfl⟩ ?_
   refine K.p 2 rfl (K.pa pm) ⟨hS.pick [], (hS.blk 0 rfl hgp).cell rfl⟩ ?_
   refine K.p 3 rfl (K.pa p) ⟨hS.pick [], (hS.blk 0 rfl hgp).cell rfl⟩ ?_
   refine K.p 4 rfl (K.pa p) ⟨hS.pick [], (hS.blk 0 rfl hgp).cell rfl⟩ ?_
   refine K.p 5 rfl (K.pa p) ⟨hS.pick [], (hS.blk 0 rfl hgp).cell rfl⟩ ?_
   refine K.p 6 rfl (.pointer (some ⟨p, 1, none⟩)) ⟨hS.pick [], (hS.blk 0 rfl hgp).cell rfl⟩ ?_
   refine K.o_ 7 rfl (K.iv S.t) (fun w ⟨hS, hC⟩ => hC) ⟨hS.pick [], (hS.blk 0 rfl hgp).cell rfl⟩ ?_
   refine K.b 8 rfl (K.pa p) ⟨hS.pick [], (hS.blk 0 rfl hgp).cell rfl⟩ ?_
   refine K.b 9 rfl (K.pa p) ⟨hS.pick [], (hS.blk 0 rfl hgp).cell rfl⟩ ?_
   refine K.b 10 rfl (K.pa p) ⟨hS.pick [], (hS.blk 0 rfl hgp).cell rfl⟩ ?_
   refine K.b 11 rfl (K.pa p) ⟨hS.pick [], (hS.blk 0 rfl hgp).cell rfl⟩ ?_
   refine K.c 12 rfl (K.QR.ld1 (v := K.pa b) rfl rfl (by kernel_rfl) ((hS.blk 0 rfl hgp).cell rfl)) ⟨hS.pick [], (hS.blk 0 rfl hgp).cell rfl⟩ ?_
   refine K.DW.l 13 rfl (by kernel_rfl) rfl (K.OW.kcall hS [K.pa b] (lEpoch _ c  _ (by assumption) (hS.blk 1 rfl hgl)) ?_)
   rintro _ w ⟨rfl, c_4⟩
   replace hS := hS.no c_4
   refine ⟨.inl ⟨hS.pick [], (hS.blk 0 rfl hgp).cell rfl⟩, ?_⟩
   refine K.DW.l 14 rfl (by kernel_rfl) rfl (K.OW.gcall hS [2] [0, 1, 3] [K.pa pm, K.iv S.t, K.iv (-1)] (mLoad_ok _ _ _ _ _ _ _ x S.t ((-1) : Int) (by first | omega | assumption | exact log_int (by assumption) _ _ | exact aft_int (by assumption) _ | exact ann_int (by assumption) _ (by omega)) ) ?_)
   clear hS; rintro _ _ w ⟨l_5, rfl, rfl, x_6⟩ hS
   replace hS : K.Sat w0 [l_5, gp, gl, fr] w := hS
   have hw_7 : isW (M.accL n S.t ((-1) : Int)).2.old := (accL_good (by assumption)).2
   refine ⟨.inl ⟨hS.pick [], (hS.blk 1 rfl hgp).cell rfl⟩, ?_⟩
   refine K.b 15 rfl (K.pa p) ⟨hS.pick [], (hS.blk 1 rfl hgp).cell rfl⟩ ?_
   refine K.b 16 rfl (.pointer (some ⟨p, 3, none⟩)) ⟨hS.pick [], (hS.blk 1 rfl hgp).cell rfl⟩ ?_
   refine K.DW.l 17 rfl (by kernel_rfl) rfl (K.OW.gst 1 [.int .u64 ((M.accL n S.t ((-1) : Int)).2.old)] _ hS hgp ?_)
   clear hS; intro w g_8 hg_9 hS
   replace hS : K.Sat w0 [l_5, g_8, gl, fr] w := hS
   refine ⟨.inl ⟨hS.pick [], (hS.blk 1 rfl hg_9).cell rfl⟩, ?_⟩
   refine K.b 18 rfl (K.pa p) ⟨hS.pick [], (hS.blk 1 rfl hg_9).cell rfl⟩ ?_
   refine K.b 19 rfl (K.pa p) ⟨hS.pick [], (hS.blk 1 rfl hg_9).cell rfl⟩ ?_
   refine K.b 20 rfl (.pointer (some ⟨p, 2, none⟩)) ⟨hS.pick [], (hS.blk 1 rfl hg_9).cell rfl⟩ ?_
   refine K.DW.l 21 rfl (by kernel_rfl) rfl (K.OW.gst 1 [K.iv 1] _ hS hg_9 ?_)
   clear hS; intro w g_10 hg_11 hS
   replace hS : K.Sat w0 [l_5, g_10, gl, fr] w := hS
   refine ⟨.inl ⟨hS.pick [], (hS.blk 1 rfl hg_11).cell rfl⟩, ?_⟩
   refine K.DW.done (by kernel_rfl) ?_
   refine K.blk_normal ?_
   refine K.t (K.s (K.g (K.q [K.pa p, K.pa p, K.pa p, .pointer (some ⟨p, 2, none⟩)] ?_)))
   refine K.d (K.iv 1) ((hS.blk 1 rfl hg_11).cell rfl) ?_
   refine K.q [.bool false, .bool false] (K.z (K.t (K.r ?_)))
   have e : recStep c n S M = (⟨S.t, 1, (M.accL n S.t ((-1) : Int)).2.old, S.next, S.slot, S.count, S.push⟩, ((M.accL n S.t ((-1) : Int)).1)) := by unfold recStep; rw [if_neg (by omega), if_pos (by omega)]
   refine ⟨.inr rfl, rfl, (.bool false), K.res1 rfl rfl, [g_10, gl, l_5], ?_, hS.pick [1, 2, 0, 3]⟩
   exact ⟨_, _, by rw [e]; exact congrArg Value.bool (decide_eq_false (by show ¬ (1 : Int) = (5 : Int); omega)).symm, rfl, by rw [e]; exact hg_11, by rw [e]; exact x_6⟩
  ·
   refine K.xe (S.pc : Int) (0 : Int) h_3 ?_
   refine K.q [.bool false] (K.z (K.t (K.f (K.s (K.g ?_)))))
   refine K.ye (S.pc : Int) (1 : Int) (by omega) ?_
   refine K.q [.bool true] (K.z (K.t (K.h (K.g (K.q [K.pa p, K.pa pm] ?_)))))
   refine K.l (K.OW.gcall hS [0, 1, 2] [3] [K.pa p, K.pa pm] (recLook_ok _ _ _ _ _ _ _ c hc _ ⟨S.t, S.pc, S.now, S.next, S.slot, S.count, S.push⟩ M _ _ _ hgp hgl x (by assumption) hS0 (by show S.pc = 1; omega) (by show S.next < c.lo; omega)) ?_)
   clear hS; rintro _ _ w ⟨g_12, l_13, rfl, rfl, h_14, x_15⟩ hS
   replace hS : K.Sat w0 [g_12, gl, l_13, fr] w := hS
   refine K.z ?_
   refine K.blk_normal ?_
   refine K.t (K.s (K.g (K.q [K.pa p, K.pa p, K.pa p, .pointer (some ⟨p, 2, none⟩)] ?_)))
   refine K.d (K.iv ((recLook c n S M).1.pc)) ((hS.blk 0 rfl h_14).cell rfl) ?_
   by_cases h_16 : ((recLook c n S M).1.pc : Int) = (5 : Int)
   ·
    refine K.ye ((recLook c n S M).1.pc : Int) (5 : Int) h_16 ?_
    refine K.q [.bool true] (K.z (K.t (K.r ?_)))
    have e : recStep c n S M = recLook c n S M := by unfold recStep; rw [if_neg (by omega), if_neg (by omega), if_pos (by omega)]
    refine ⟨.inr rfl, rfl, (.bool true), K.res1 rfl rfl, [g_12, gl, l_13], ?_, hS.pick [0, 1, 2, 3]⟩
    exact ⟨_, _, by rw [e]; exact congrArg Value.bool (decide_eq_true (by show ((recLook c n S M).1.pc) = (5 : Int); omega)).symm, rfl, by rw [e]; exact h_14, by rw [e]; exact x_15⟩
   ·
    refine K.xe ((recLook c n S M).1.pc : Int) (5 : Int) h_16 ?_
    refine K.q [.bool false] (K.z (K.t (K.r ?_)))
    have e : recStep c n S M = recLook c n S M := by unfold recStep; rw [if_neg (by omega), if_neg (by omega), if_pos (by omega)]
    refine ⟨.inr rfl, rfl, (.bool false), K.res1 rfl rfl, [g_12, gl, l_13], ?_, hS.pick [0, 1, 2, 3]⟩
    exact ⟨_, _, by rw [e]; exact congrArg Value.bool (decide_eq_false (by show ¬ ((recLook c n S M).1.pc) = (5 : Int); omega)).symm, rfl, by rw [e]; exact h_14, by rw [e]; exact x_15⟩
set_option maxHeartbeats 1000000 in
set_option maxRecDepth 100000 in
theorem recStepB_ok (w0 : World) (p b pm q n t : Nat) (c : Cfg) (hc : cfgOk c) (a : Option Addr) (S : RecS) (M : MemM) (gp gl l : K.Cs) (hgp : gp = recPt p b a S) (hgl : gl = layPt b c) (x : MemAt l pm q n t M) (hM : M.good) (hS : S.good c) (hp : S.pc = 2) :
  K.GC Tryz.prog w0 209 #[K.pa p, K.pa pm] [gp, gl, l] (fun v post => ∃ gp' gx l' px, v = .bool (recStep c n S M).1.done ∧ post = [gp', gx, gl, l'] ∧ gp' = recPt p b (some ⟨px, 0, none⟩) (recStep c n S M).1 ∧ gx = pushPt px b (recStep c n S M).1.push ∧ MemAt l' pm q n t (recStep c n S M).2) := by
 have hS0 := hS
 obtain ⟨hSt, hSw, hSs, hSx, hSc, hSp⟩ := hS
 have hcc := hc
 unfold cfgOk at hcc
 refine K.GC.mk (n := 111) Tryz.func209 rfl rfl [K.pa p, K.pa pm] rfl rfl ?_
 intro fr w hS
 replace hS : K.Sat w0 [gp, gl, l, fr] w := hS
 refine K.s (K.g (K.q [.bool false] (K.z (K.t (K.s (K.s (K.g (K.q [K.pa p] ?_))))))))
 refine K.l (K.OW.gcall hS [0] [1, 2, 3] [K.pa p] (recDone_ok _ _ _ _ ⟨S.t, S.pc, S.now, S.next, S.slot, S.count, S.push⟩ _ hgp) ?_)
 clear hS; rintro _ _ w ⟨rfl, (⟨rfl, h_1⟩ | ⟨rfl, h_2⟩)⟩ hS
 ·
  replace hS : K.Sat w0 [gp, gl, l, fr] w := hS
  replace h_1 : S.pc = 5 := h_1
  refine K.z (K.t (K.h (K.s (K.g (K.q [.bool true] (K.z (K.t (K.r (K.u ?_)))))))))
  refine ⟨.inr rfl, rfl, (.bool true), K.res1 rfl rfl, [gp, gl, l], ?_, hS.pick [0, 1, 2, 3]⟩
  exfalso; omega
 ·
  replace hS : K.Sat w0 [gp, gl, l, fr] w := hS
  replace h_2 : ¬ S.pc = 5 := h_2
  refine K.z (K.t (K.f (K.k (K.t (K.s (K.s (K.g (K.q [K.pa p, K.pa p, K.pa p, .pointer (some ⟨p, 2, none⟩)] ?_))))))))
  refine K.d (K.iv S.pc) ((hS.blk 0 rfl hgp).cell rfl) ?_
  refine K.z (K.t ?_)
  refine K.KW.block ?_
  refine K.s (K.g ?_)
  refine K.xe (S.pc : Int) (0 : Int) (by omega) ?_
  refine K.q [.bool false] (K.z (K.t (K.f (K.s (K.g ?_)))))
  refine K.xe (S.pc : Int) (1 : Int) (by omega) ?_
  refine K.q [.bool false] (K.z (K.t (K.f (K.s (K.g ?_)))))
  refine K.ye (S.pc : Int) (2 : Int) (by omega) ?_
  refine K.q [.bool true] (K.z (K.t (K.h (K.s ?_))))
  refine K.KW.gdrawn [0] hS (by kernel_rfl) ?_
  clear hS; intro w hS
  refine K.p 0 rfl (K.pa pm) (hS.pick [0]) ?_
  refine K.p 1 rfl (K.pa p) (hS.pick [0]) ?_
  refine K.p 2 rfl (K.pa p) (hS.pick [0]) ?_
  refine K.p 3 rfl (K.pa p) (hS.pick [0]) ?_
  refine K.p 4 rfl (.pointer (some ⟨p, 1, none⟩)) (hS.pick [0]) ?_
  refine K.o_ 5 rfl (K.iv S.t) (fun w hS => ((hS.blk 0 rfl hgp).cell rfl)) (hS.pick [0]) ?_
  refine K.p 6 rfl (K.pa p) (hS.pick [0]) ?_
  refine K.p 7 rfl (K.pa p) (hS.pick [0]) ?_
  refine K.p 8 rfl (K.pa p) (hS.pick [0]) ?_
  refine K.p 9 rfl (K.pa p) (hS.pick [0]) ?_
  refine K.o_ 10 rfl (K.pa b) (fun w hS => ((hS.blk 0 rfl hgp).cell rfl)) (hS.pick [0]) ?_
  refine K.p 11 rfl (K.pa p) (hS.pick [0]) ?_
  refine K.p 12 rfl (K.pa p) (hS.pick [0]) ?_
  refine K.p 13 rfl (K.pa p) (hS.pick [0]) ?_
  refine K.p 14 rfl (.pointer (some ⟨p, 1, none⟩)) (hS.pick [0]) ?_
  refine K.o_ 15 rfl (K.iv S.t) (fun w hS => ((hS.blk 0 rfl hgp).cell rfl)) (hS.pick [0]) ?_
  refine K.b 16 rfl (K.pa p) (hS.pick [0]) ?_
  refine K.b 17 rfl (K.pa p) (hS.pick [0]) ?_
  refine K.b 18 rfl (.pointer (some ⟨p, 4, none⟩)) (hS.pick [0]) ?_
  refine K.c 19 rfl (K.QR.ld1 (v := K.iv S.next) rfl rfl (by kernel_rfl) ((hS.blk 0 rfl hgp).cell rfl)) (hS.pick [0]) ?_
  refine K.c 20 rfl (K.QR.n64 ((S.next : Int) - (1 : Int)) ((S.next : Int) - (1 : Int)) (by kernel_rfl) (by omega)) (hS.pick [0]) ?_
  refine K.DW.l 21 rfl (by kernel_rfl) rfl (K.OW.kcall hS [K.pa b, K.iv S.t, K.iv ((S.next : Int) - (1 : Int))] (lLog _ c S.t ((S.next : Int) - (1 : Int)) _ (by assumption) (hS.blk 1 rfl hgl)) ?_)
  rintro _ w ⟨rfl, c_3⟩
  replace hS := hS.no c_3
  refine ⟨.inl (hS.pick [0]), ?_⟩
  refine K.DW.l 22 rfl (by kernel_rfl) rfl (K.OW.gcall hS [2] [0, 1, 3] [K.pa pm, K.iv S.t, K.iv (logS c S.t ((S.next : Int) - (1 : Int))), .int .u64 0] (mStore_ok _ _ _ _ _ _ _ x S.t (logS c S.t ((S.next : Int) - (1 : Int))) (by first | omega | assumption | exact log_int (by assumption) _ _ | exact aft_int (by assumption) _ | exact ann_int (by assumption) _ (by omega)) (0 : Int)) ?_)
  clear hS; rintro _ _ w ⟨l_4, rfl, rfl, x_5⟩ hS
  replace hS : K.Sat w0 [l_4, gp, gl, fr] w := hS
  refine ⟨.inl (hS.pick [1]), ?_⟩
  refine K.DW.done (by kernel_rfl) ?_
  refine K.t ?_
  refine K.KW.gdrawnC [] (fun w => w.cell? ⟨p, 0, none⟩ = some (K.pa b) ∧ w.cell? ⟨p, 1, none⟩ = some (K.iv S.t)) hS (by kernel_rfl) ?_
  clear hS; intro w hS
  refine K.p 0 rfl (K.pa p) ⟨hS.pick [], (hS.blk 1 rfl hgp).cell rfl, (hS.blk 1 rfl hgp).cell rfl⟩ ?_
  refine K.p 1 rfl (K.pa p) ⟨hS.pick [], (hS.blk 1 rfl hgp).cell rfl, (hS.blk 1 rfl hgp).cell rfl⟩ ?_
  refine K.p 2 rfl (K.pa p) ⟨hS.pick [], (hS.blk 1 rfl hgp).cell rfl, (hS.blk 1 rfl hgp).cell rfl⟩ ?_
  refine K.p 3 rfl (K.pa p) ⟨hS.pick [], (hS.blk 1 rfl hgp).cell rfl, (hS.blk 1 rfl hgp).cell rfl⟩ ?_
  refine K.p 4 rfl (K.pa p) ⟨hS.pick [], (hS.blk 1 rfl hgp).cell rfl, (hS.blk 1 rfl hgp).cell rfl⟩ ?_
  refine K.p 5 rfl (K.pa p) ⟨hS.pick [], (hS.blk 1 rfl hgp).cell rfl, (hS.blk 1 rfl hgp).cell rfl⟩ ?_
  refine K.o_ 6 rfl (K.pa b) (fun w ⟨hS, hC⟩ => hC.1) ⟨hS.pick [], (hS.blk 1 rfl hgp).cell rfl, (hS.blk 1 rfl hgp).cell rfl⟩ ?_
  refine K.p 7 rfl (K.pa p) ⟨hS.pick [], (hS.blk 1 rfl hgp).cell rfl, (hS.blk 1 rfl hgp).cell rfl⟩ ?_
  refine K.p 8 rfl (K.pa p) ⟨hS.pick [], (hS.blk 1 rfl hgp).cell rfl, (hS.blk 1 rfl hgp).cell rfl⟩ ?_
  refine K.p 9 rfl (K.pa p) ⟨hS.pick [], (hS.blk 1 rfl hgp).cell rfl, (hS.blk 1 rfl hgp).cell rfl⟩ ?_
  refine K.p 10 rfl (.pointer (some ⟨p, 1, none⟩)) ⟨hS.pick [], (hS.blk 1 rfl hgp).cell rfl, (hS.blk 1 rfl hgp).cell rfl⟩ ?_
  refine K.o_ 11 rfl (K.iv S.t) (fun w ⟨hS, hC⟩ => hC.2) ⟨hS.pick [], (hS.blk 1 rfl hgp).cell rfl, (hS.blk 1 rfl hgp).cell rfl⟩ ?_
  refine K.b 12 rfl (K.pa p) ⟨hS.pick [], (hS.blk 1 rfl hgp).cell rfl, (hS.blk 1 rfl hgp).cell rfl⟩ ?_
  refine K.b 13 rfl (K.pa p) ⟨hS.pick [], (hS.blk 1 rfl hgp).cell rfl, (hS.blk 1 rfl hgp).cell rfl⟩ ?_
  refine K.b 14 rfl (.pointer (some ⟨p, 5, none⟩)) ⟨hS.pick [], (hS.blk 1 rfl hgp).cell rfl, (hS.blk 1 rfl hgp).cell rfl⟩ ?_
  refine K.c 15 rfl (K.QR.ld1 (v := K.iv S.slot) rfl rfl (by kernel_rfl) ((hS.blk 1 rfl hgp).cell rfl)) ⟨hS.pick [], (hS.blk 1 rfl hgp).cell rfl, (hS.blk 1 rfl hgp).cell rfl⟩ ?_
  refine K.DW.l 16 rfl (by kernel_rfl) rfl (K.OW.gcall hS [] [0, 1, 2, 3] [K.pa b, K.iv S.t, K.iv S.slot] (newpush_ok _ b S.t S.slot) ?_)
  clear hS; rintro _ _ w ⟨p_6, g_7, rfl, rfl, h_8⟩ hS
  replace hS : K.Sat w0 [g_7, l_4, gp, gl, fr] w := hS
  refine ⟨.inl ⟨hS.pick [], (hS.blk 2 rfl hgp).cell rfl, (hS.blk 2 rfl hgp).cell rfl⟩, ?_⟩
  refine K.b 17 rfl (K.pa p) ⟨hS.pick [], (hS.blk 2 rfl hgp).cell rfl, (hS.blk 2 rfl hgp).cell rfl⟩ ?_
  refine K.b 18 rfl (.pointer (some ⟨p, 6, none⟩)) ⟨hS.pick [], (hS.blk 2 rfl hgp).cell rfl, (hS.blk 2 rfl hgp).cell rfl⟩ ?_
  refine K.DW.l 19 rfl (by kernel_rfl) rfl (K.OW.gst 2 [K.pa p_6] _ hS hgp ?_)
  clear hS; intro w g_9 hg_10 hS
  replace hS : K.Sat w0 [g_7, l_4, g_9, gl, fr] w := hS
  refine ⟨.inl ⟨hS.pick [], (hS.blk 2 rfl hg_10).cell rfl, (hS.blk 2 rfl hg_10).cell rfl⟩, ?_⟩
  refine K.b 20 rfl (K.pa p) ⟨hS.pick [], (hS.blk 2 rfl hg_10).cell rfl, (hS.blk 2 rfl hg_10).cell rfl⟩ ?_
  refine K.b 21 rfl (K.pa p) ⟨hS.pick [], (hS.blk 2 rfl hg_10).cell rfl, (hS.blk 2 rfl hg_10).cell rfl⟩ ?_
  refine K.b 22 rfl (.pointer (some ⟨p, 2, none⟩)) ⟨hS.pick [], (hS.blk 2 rfl hg_10).cell rfl, (hS.blk 2 rfl hg_10).cell rfl⟩ ?_
  refine K.DW.l 23 rfl (by kernel_rfl) rfl (K.OW.gst 2 [K.iv 4] _ hS hg_10 ?_)
  clear hS; intro w g_11 hg_12 hS
  replace hS : K.Sat w0 [g_7, l_4, g_11, gl, fr] w := hS
  refine ⟨.inl ⟨hS.pick [], (hS.blk 2 rfl hg_12).cell rfl, (hS.blk 2 rfl hg_12).cell rfl⟩, ?_⟩
  refine K.DW.done (by kernel_rfl) ?_
  refine K.blk_normal ?_
  refine K.t (K.s (K.g (K.q [K.pa p, K.pa p, K.pa p, .pointer (some ⟨p, 2, none⟩)] ?_)))
  refine K.d (K.iv 4) ((hS.blk 2 rfl hg_12).cell rfl) ?_
  refine K.q [.bool false, .bool false] (K.z (K.t (K.r ?_)))
  have e : recStep c n S M = (⟨S.t, 4, S.now, S.next, S.slot, S.count, ⟨S.t, 0, 0, S.slot⟩⟩, ((M.accS n S.t (logS c S.t ((S.next : Int) - (1 : Int))) (0 : Int)).1)) := by unfold recStep; rw [if_neg (by omega), if_neg (by omega), if_neg (by omega), if_pos (by omega)]
  refine ⟨.inr rfl, rfl, (.bool false), K.res1 rfl rfl, [g_11, g_7, gl, l_4], ?_, hS.pick [2, 0, 3, 1, 4]⟩
  exact ⟨_, _, _, _, by rw [e]; exact congrArg Value.bool (decide_eq_false (by show ¬ (4 : Int) = (5 : Int); omega)).symm, rfl, by rw [e]; exact hg_12, by rw [e]; exact h_8, by rw [e]; exact x_5⟩
set_option maxHeartbeats 1000000 in
set_option maxRecDepth 100000 in
theorem recStepC_ok (w0 : World) (p b pm q n t : Nat) (c : Cfg) (hc : cfgOk c) (a : Option Addr) (S : RecS) (M : MemM) (gp gl l : K.Cs) (hgp : gp = recPt p b a S) (hgl : gl = layPt b c) (x : MemAt l pm q n t M) (hM : M.good) (hS : S.good c) (px : Nat) (gx : K.Cs) (hgx : gx = pushPt px b S.push) (ha : a = some ⟨px, 0, none⟩) (hp : S.pc = 4) :
  K.GC Tryz.prog w0 209 #[K.pa p, K.pa pm] [gp, gx, gl, l] (fun v post => ∃ gp' gx' l', v = .bool (recStep c n S M).1.done ∧ post = [gp', gx', gl, l'] ∧ gp' = recPt p b (some ⟨px, 0, none⟩) (recStep c n S M).1 ∧ gx' = pushPt px b (recStep c n S M).1.push ∧ MemAt l' pm q n t (recStep c n S M).2) := by
 subst ha
 have hS0 := hS
 obtain ⟨hSt, hSw, hSs, hSx, hSc, hSp⟩ := hS
 have hcc := hc
 unfold cfgOk at hcc
 have hpg : S.push.good := by
  rcases hSp with h | h | h | h | h
  ·omega
  ·omega
  ·omega
  ·exact h.2.2.1
  ·omega
 refine K.GC.mk (n := 111) Tryz.func209 rfl rfl [K.pa p, K.pa pm] rfl rfl ?_
 intro fr w hS
 replace hS : K.Sat w0 [gp, gx, gl, l, fr] w := hS
 refine K.s (K.g (K.q [.bool false] (K.z (K.t (K.s (K.s (K.g (K.q [K.pa p] ?_))))))))
 refine K.l (K.OW.gcall hS [0] [1, 2, 3, 4] [K.pa p] (recDone_ok _ _ _ _ ⟨S.t, S.pc, S.now, S.next, S.slot, S.count, S.push⟩ _ hgp) ?_)
 clear hS; rintro _ _ w ⟨rfl, (⟨rfl, h_1⟩ | ⟨rfl, h_2⟩)⟩ hS
 ·
  replace hS : K.Sat w0 [gp, gx, gl, l, fr] w := hS
  replace h_1 : S.pc = 5 := h_1
  refine K.z (K.t (K.h (K.s (K.g (K.q [.bool true] (K.z (K.t (K.r (K.u ?_)))))))))
  refine ⟨.inr rfl, rfl, (.bool true), K.res1 rfl rfl, [gp, gl, l], ?_, hS.pick [0, 2, 3, 4]⟩
  exfalso; omega
 ·
  replace hS : K.Sat w0 [gp, gx, gl, l, fr] w := hS
  replace h_2 : ¬ S.pc = 5 := h_2
  refine K.z (K.t (K.f (K.k (K.t (K.s (K.s (K.g (K.q [K.pa p, K.pa p, K.pa p, .pointer (some ⟨p, 2, none⟩)] ?_))))))))
  refine K.d (K.iv S.pc) ((hS.blk 0 rfl hgp).cell rfl) ?_
  refine K.z (K.t ?_)
  refine K.KW.block ?_
  refine K.s (K.g ?_)
  refine K.xe (S.pc : Int) (0 : Int) (by omega) ?_
  refine K.q [.bool false] (K.z (K.t (K.f (K.s (K.g ?_)))))
  refine K.xe (S.pc : Int) (1 : Int) (by omega) ?_
  refine K.q [.bool false] (K.z (K.t (K.f (K.s (K.g ?_)))))
  refine K.xe (S.pc : Int) (2 : Int) (by omega) ?_
  refine K.q [.bool false] (K.z (K.t (K.f (K.s (K.g (K.q [K.pa p, K.pa p, .pointer (some ⟨p, 6, none⟩)] ?_))))))
  refine K.d (K.pa px) ((hS.blk 0 rfl hgp).cell rfl) ?_
  refine K.q [K.pa pm] ?_
  refine K.l (K.OW.gcall hS [1, 2, 3] [0, 4] [K.pa px, K.pa pm] (pushStep2_ok _ _ _ _ _ _ _ c hc S.push M _ _ _ hgx hgl x (by assumption) hpg) ?_)
  clear hS; rintro _ _ w ⟨g_5, l_6, rfl, h_7, x_8, (⟨rfl, k_3⟩ | ⟨rfl, k_4⟩)⟩ hS
  ·
   replace hS : K.Sat w0 [g_5, gl, l_6, gp, fr] w := hS
   refine K.z (K.t (K.h (K.s (K.g (K.q [K.pa p, K.pa p, .pointer (some ⟨p, 7, none⟩)] ?_)))))
   refine K.d (K.iv S.count) ((hS.blk 3 rfl hgp).cell rfl) ?_
   refine K.a (K.QR.n64 ((S.count : Int) + (1 : Int)) ((S.count : Int) + (1 : Int)) (by kernel_rfl) (by omega)) ?_
   refine K.q [K.pa p, .pointer (some ⟨p, 7, none⟩)] ?_
   refine K.l (K.OW.gst 3 [K.iv ((S.count : Int) + (1 : Int))] _ hS hgp ?_)
   clear hS; intro w g_9 hg_10 hS
   replace hS : K.Sat w0 [g_5, gl, l_6, g_9, fr] w := hS
   refine K.z (K.t (K.s (K.g (K.q [K.pa p, K.pa p, K.pa p, .pointer (some ⟨p, 2, none⟩)] ?_))))
   refine K.l (K.OW.gst 3 [K.iv 1] _ hS hg_10 ?_)
   clear hS; intro w g_11 hg_12 hS
   replace hS : K.Sat w0 [g_5, gl, l_6, g_11, fr] w := hS
   refine K.z (K.t (K.g (K.q [K.pa p] ?_)))
   refine K.l (K.OW.gcall hS [3, 1] [0, 2, 4] [K.pa p] (recRest_ok _ _ _ c (by first | assumption | (unfold cfgOk; decide)) _ ⟨S.t, 1, S.now, S.next, S.slot, (S.count : Int) + (1 : Int), S.push⟩ _ _ hg_12 hgl) ?_)
   clear hS; rintro _ _ w ⟨g_13, rfl, rfl, h_14⟩ hS
   replace hS : K.Sat w0 [g_13, gl, g_5, l_6, fr] w := hS
   refine K.z ?_
   refine K.blk_normal ?_
   refine K.t (K.s (K.g (K.q [K.pa p, K.pa p, K.pa p, .pointer (some ⟨p, 2, none⟩)] ?_)))
   refine K.d (K.iv (if (1 : Int) = 1 ∧ ¬ S.next < c.lo then 5 else (1 : Int))) ((hS.blk 0 rfl h_14).cell rfl) ?_
   by_cases h_15 : ((if (1 : Int) = 1 ∧ ¬ S.next < c.lo then 5 else (1 : Int)) : Int) = (5 : Int)
   ·
    refine K.ye ((if (1 : Int) = 1 ∧ ¬ S.next < c.lo then 5 else (1 : Int)) : Int) (5 : Int) h_15 ?_
    refine K.q [.bool true] (K.z (K.t (K.r ?_)))
    have e : recStep c n S M = (recPush c S (pushStep c n S.push M).1, (pushStep c n S.push M).2) := by unfold recStep; rw [if_neg (by omega), if_neg (by omega), if_neg (by omega), if_neg (by omega)]
    have e2 : recPush c S (pushStep c n S.push M).1 = ⟨S.t, onPc c S.next, S.now, S.next, S.slot, S.count + 1, (pushStep c n S.push M).1⟩ := if_pos k_3
    have hgb := h_14
    rw [onPc_eq (by first | rfl | omega)] at hgb
    rw [e2] at e
    refine ⟨.inr rfl, rfl, (.bool true), K.res1 rfl rfl, [g_13, g_5, gl, l_6], ?_, hS.pick [0, 2, 1, 3, 4]⟩
    exact ⟨_, _, _, by rw [e]; exact congrArg Value.bool (decide_eq_true (by show onPc c S.next = (5 : Int); rw [← onPc_eq (pc := 1) rfl]; omega)).symm, rfl, by rw [e]; exact hgb, by rw [e]; exact h_7, by rw [e]; exact x_8⟩
   ·
    refine K.xe ((if (1 : Int) = 1 ∧ ¬ S.next < c.lo then 5 else (1 : Int)) : Int) (5 : Int) h_15 ?_
    refine K.q [.bool false] (K.z (K.t (K.r ?_)))
    have e : recStep c n S M = (recPush c S (pushStep c n S.push M).1, (pushStep c n S.push M).2) := by unfold recStep; rw [if_neg (by omega), if_neg (by omega), if_neg (by omega), if_neg (by omega)]
    have e2 : recPush c S (pushStep c n S.push M).1 = ⟨S.t, onPc c S.next, S.now, S.next, S.slot, S.count + 1, (pushStep c n S.push M).1⟩ := if_pos k_3
    have hgb := h_14
    rw [onPc_eq (by first | rfl | omega)] at hgb
    rw [e2] at e
    refine ⟨.inr rfl, rfl, (.bool false), K.res1 rfl rfl, [g_13, g_5, gl, l_6], ?_, hS.pick [0, 2, 1, 3, 4]⟩
    exact ⟨_, _, _, by rw [e]; exact congrArg Value.bool (decide_eq_false (by show ¬ onPc c S.next = (5 : Int); rw [← onPc_eq (pc := 1) rfl]; omega)).symm, rfl, by rw [e]; exact hgb, by rw [e]; exact h_7, by rw [e]; exact x_8⟩
  ·
   replace hS : K.Sat w0 [g_5, gl, l_6, gp, fr] w := hS
   refine K.z (K.t (K.f (K.k ?_)))
   refine K.blk_normal ?_
   refine K.t (K.s (K.g (K.q [K.pa p, K.pa p, K.pa p, .pointer (some ⟨p, 2, none⟩)] ?_)))
   refine K.d (K.iv S.pc) ((hS.blk 3 rfl hgp).cell rfl) ?_
   by_cases h_16 : (S.pc : Int) = (5 : Int)
   ·
    refine K.ye (S.pc : Int) (5 : Int) h_16 ?_
    refine K.q [.bool true] (K.z (K.t (K.r ?_)))
    have e : recStep c n S M = (recPush c S (pushStep c n S.push M).1, (pushStep c n S.push M).2) := by unfold recStep; rw [if_neg (by omega), if_neg (by omega), if_neg (by omega), if_neg (by omega)]
    have e2 : recPush c S (pushStep c n S.push M).1 = ⟨S.t, S.pc, S.now, S.next, S.slot, S.count, (pushStep c n S.push M).1⟩ := if_neg k_4
    rw [e2] at e
    refine ⟨.inr rfl, rfl, (.bool true), K.res1 rfl rfl, [gp, g_5, gl, l_6], ?_, hS.pick [3, 0, 1, 2, 4]⟩
    exact ⟨_, _, _, by rw [e]; exact congrArg Value.bool (decide_eq_true (by show S.pc = (5 : Int); omega)).symm, rfl, by rw [e]; exact hgp, by rw [e]; exact h_7, by rw [e]; exact x_8⟩
   ·
    refine K.xe (S.pc : Int) (5 : Int) h_16 ?_
    refine K.q [.bool false] (K.z (K.t (K.r ?_)))
    have e : recStep c n S M = (recPush c S (pushStep c n S.push M).1, (pushStep c n S.push M).2) := by unfold recStep; rw [if_neg (by omega), if_neg (by omega), if_neg (by omega), if_neg (by omega)]
    have e2 : recPush c S (pushStep c n S.push M).1 = ⟨S.t, S.pc, S.now, S.next, S.slot, S.count, (pushStep c n S.push M).1⟩ := if_neg k_4
    rw [e2] at e
    refine ⟨.inr rfl, rfl, (.bool false), K.res1 rfl rfl, [gp, g_5, gl, l_6], ?_, hS.pick [3, 0, 1, 2, 4]⟩
    exact ⟨_, _, _, by rw [e]; exact congrArg Value.bool (decide_eq_false (by show ¬ S.pc = (5 : Int); omega)).symm, rfl, by rw [e]; exact hgp, by rw [e]; exact h_7, by rw [e]; exact x_8⟩
end Go.Proofs.YtbfafebfkdbglaaGreat
