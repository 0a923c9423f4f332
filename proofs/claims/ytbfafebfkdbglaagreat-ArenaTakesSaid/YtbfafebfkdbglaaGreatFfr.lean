import Derived.Test.YtbfafebfkdbglaaGreatFbi
import Derived.Test.YtbfafebfkdbglaaGreatFlist
/- Free slots: the machines' steps. -/
namespace Go.Proofs.YtbfafebfkdbglaaGreat
open Go.RowKit
set_option linter.unusedVariables false
attribute [local irreducible] K.KW K.RW K.DW K.OW K.QR K.KC
/-- all words are words -/
def MemM.good (M : MemM) : Prop := (∀ x ∈ M.pass, isW x) ∧ (∀ x ∈ M.dev.seen, isW x) ∧ (∀ x ∈ M.dev.kept, isW x)
theorem getD_W {l : List Int} {k : Nat} (h : ∀ x ∈ l, isW x) : isW (l.getD k 0) := by
 by_cases hk : k < l.length
 ·have : l.getD k 0 ∈ l := by simp [hk]
  exact h _ this
 ·have : l.getD k 0 = 0 := by rw [List.getD_eq_getElem?_getD, List.getElem?_eq_none (by omega)]; rfl
  rw [this]; unfold isW; omega
theorem peek_W {M : MemM} {n : Nat} {i y : Int} (h : M.good) (e : M.peek n i = some y) : isW y := by
 unfold MemM.peek at e
 split at e
 ·split at e
  ·cases e; exact getD_W h.2.1
  ·cases e
 ·split at e
  ·cases e; exact getD_W h.1
  ·cases e
theorem peek0_W {M : MemM} {n : Nat} {i : Int} (h : M.good) : isW ((M.peek n i).getD 0) := by
 cases e : M.peek n i with
 | none => show isW 0; unfold isW; omega
 | some y => exact peek_W h e
theorem set_W {l : List Int} {k : Nat} {w : Int} (h : ∀ x ∈ l, isW x) (hw : isW w) : ∀ x ∈ l.set k w, isW x := fun x hx => by
 rcases List.mem_or_eq_of_mem_set hx with h1 | h1
 ·exact h x h1
 ·rw [h1]; exact hw
theorem put_good {M : MemM} {i w : Int} (h : M.good) (hw : isW w) : (M.put i w).good := by
 unfold MemM.put
 split
 ·exact ⟨h.1, set_W h.2.1 hw, h.2.2⟩
 ·exact ⟨set_W h.1 hw, h.2⟩
theorem accL_good {M : MemM} {n : Nat} {th i : Int} (h : M.good) : (M.accL n th i).1.good ∧ isW (M.accL n th i).2.old := ⟨h, peek0_W h⟩
theorem accS_good {M : MemM} {n : Nat} {th i w : Int} (h : M.good) (hw : isW w) : (M.accS n th i w).1.good := by
 show MemM.good (MemM.count (if (M.peek n i).isSome then M.put i w else M) _ _)
 split
 ·exact put_good h hw
 ·exact h
theorem accW_good {M : MemM} {n : Nat} {th i old w : Int} (h : M.good) (hw : isW w) : (M.accW n th i old w).1.good := by
 show MemM.good (MemM.count (if (M.peek n i == some old) = true then M.put i w else M) _ _)
 split
 ·exact put_good h hw
 ·exact h
theorem rep_W {k : Nat} : ∀ x ∈ List.replicate k (0 : Int), isW x := fun x hx => by rw [(List.mem_replicate.1 hx).2]; unfold isW; omega
theorem puts_good {n : Nat} : ∀ {ps : List PutM} {M : MemM}, M.good → (∀ j, j < ps.length → isW (ps.getD j pu0).w) → (putsT n M ps).good
 | [], M, h, _ => h
 | p :: ps, M, h, hp => puts_good (ps := ps) (accS_good h (hp 0 (by simp))) (fun j hj => hp (j + 1) (by simpa using hj))
theorem ground_good {n t k : Nat} {ps : List PutM} (hp : ∀ j, j < ps.length → isW (ps.getD j pu0).w) : (groundM n t k ps).good := puts_good ⟨rep_W, rep_W, rep_W⟩ hp
/-- a pop, and its step -/
structure PopS where
 t : Int
 pc : Int
 top : Int
 next : Int
 slot : Int
def PopS.good (S : PopS) : Prop := isInt S.t ∧ isW S.top ∧ isW S.next
abbrev popPt (p b : Nat) (S : PopS) : K.Cs := [K.pt p 237 [K.pa b, K.iv S.t, K.iv S.pc, .int .u64 S.top, .int .u64 S.next, K.iv S.slot]]
def popStep (c : Cfg) (n : Nat) (S : PopS) (M : MemM) : PopS × MemM :=
 if S.pc = 3 then (S, M)
 else if S.pc = 0 then (⟨S.t, if toI (M.accL n S.t (-2)).2.old = -1 then 3 else 1, (M.accL n S.t (-2)).2.old, S.next, S.slot⟩, (M.accL n S.t (-2)).1)
 else if S.pc = 1 then (⟨S.t, 2, S.top, (M.accL n S.t (aftS c (toI S.top))).2.old, S.slot⟩, (M.accL n S.t (aftS c (toI S.top))).1)
 else if (M.accW n S.t (-2) S.top (newerI (toI S.next) S.top)).2.done = true then (⟨S.t, 3, S.top, S.next, toI S.top⟩, (M.accW n S.t (-2) S.top (newerI (toI S.next) S.top)).1)
 else (⟨S.t, 0, S.top, S.next, S.slot⟩, (M.accW n S.t (-2) S.top (newerI (toI S.next) S.top)).1)
theorem popStep_good {c : Cfg} {n : Nat} {S : PopS} {M : MemM} (hS : S.good) (hM : M.good) : (popStep c n S M).1.good ∧ (popStep c n S M).2.good := by
 unfold popStep
 split
 ·exact ⟨hS, hM⟩
 split
 ·exact ⟨⟨hS.1, (accL_good (n := n) (th := S.t) (i := -2) hM).2, hS.2.2⟩, (accL_good hM).1⟩
 split
 ·exact ⟨⟨hS.1, hS.2.1, (accL_good (n := n) (th := S.t) (i := aftS c (toI S.top)) hM).2⟩, (accL_good hM).1⟩
 split
 ·exact ⟨⟨hS.1, hS.2.1, hS.2.2⟩, accW_good hM (newerI_w _ _)⟩
 ·exact ⟨⟨hS.1, hS.2.1, hS.2.2⟩, accW_good hM (newerI_w _ _)⟩
/-- a push, and its step -/
structure PushS where
 t : Int
 pc : Int
 top : Int
 slot : Int
def PushS.good (S : PushS) : Prop := isInt S.t ∧ isW S.top ∧ isInt S.slot
abbrev pushPt (p b : Nat) (S : PushS) : K.Cs := [K.pt p 218 [K.pa b, K.iv S.t, K.iv S.pc, .int .u64 S.top, K.iv S.slot]]
def pushStep (c : Cfg) (n : Nat) (S : PushS) (M : MemM) : PushS × MemM :=
 if S.pc = 3 then (S, M)
 else if S.pc = 0 then (⟨S.t, 1, (M.accL n S.t (-2)).2.old, S.slot⟩, (M.accL n S.t (-2)).1)
 else if S.pc = 1 then (⟨S.t, 2, S.top, S.slot⟩, (M.accS n S.t (aftS c S.slot) (topI (toI S.top) 0)).1)
 else if (M.accW n S.t (-2) S.top (newerI S.slot S.top)).2.done = true then (⟨S.t, 3, S.top, S.slot⟩, (M.accW n S.t (-2) S.top (newerI S.slot S.top)).1)
 else (⟨S.t, 0, S.top, S.slot⟩, (M.accW n S.t (-2) S.top (newerI S.slot S.top)).1)
theorem pushStep_good {c : Cfg} {n : Nat} {S : PushS} {M : MemM} (hS : S.good) (hM : M.good) : (pushStep c n S M).1.good ∧ (pushStep c n S M).2.good := by
 unfold pushStep
 split
 ·exact ⟨hS, hM⟩
 split
 ·exact ⟨⟨hS.1, (accL_good (n := n) (th := S.t) (i := -2) hM).2, hS.2.2⟩, (accL_good hM).1⟩
 split
 ·exact ⟨⟨hS.1, hS.2.1, hS.2.2⟩, accS_good hM (topI_w (by omega))⟩
 split
 ·exact ⟨⟨hS.1, hS.2.1, hS.2.2⟩, accW_good hM (newerI_w _ _)⟩
 ·exact ⟨⟨hS.1, hS.2.1, hS.2.2⟩, accW_good hM (newerI_w _ _)⟩
theorem ann_int {c : Cfg} (hc : cfgOk c) (t : Int) (h : isInt t) : isInt (annS c t) := by
 have := lay_bd hc
 unfold cfgOk at hc
 unfold annS; split <;> omega
theorem aft_int {c : Cfg} (hc : cfgOk c) (t : Int) : isInt (aftS c t) := by
 have := lay_bd hc
 unfold cfgOk at hc
 unfold aftS; split <;> omega
theorem mSwap2_ok (w0 : World) (p q n t : Nat) (M : MemM) (l : K.Cs) (x : MemAt l p q n t M) (th i : Int) (hi : isInt i) (old wo : Int) :
  K.GC Tryz.prog w0 80 #[K.pa p, K.iv th, K.iv i, .int .u64 old, .int .u64 wo] [l] (fun v post => ∃ l', post = [l'] ∧ MemAt l' p q n t (M.accW n th i old wo).1 ∧ ((v = .bool true ∧ (M.accW n th i old wo).2.done = true) ∨ (v = .bool false ∧ (M.accW n th i old wo).2.done = false))) := by
 refine (mSwap_ok w0 p q n t M l x th i hi old wo).mono ?_
 rintro v post ⟨l', rfl, rfl, hx⟩
 refine ⟨l', rfl, hx, ?_⟩
 cases h : (M.accW n th i old wo).2.done
 ·exact .inr ⟨rfl, rfl⟩
 ·exact .inl ⟨rfl, rfl⟩
set_option maxHeartbeats 1000000 in
set_option maxRecDepth 100000 in
theorem popDone_ok (w0 : World) (p b : Nat) (S : PopS) (gp : K.Cs) (hgp : gp = popPt p b S) :
  K.GC Tryz.prog w0 191 #[K.pa p] [gp] (fun v post => post = [gp] ∧ ((v = .bool true ∧ S.pc = 3) ∨ (v = .bool false ∧ ¬ S.pc = 3))) := by
 refine K.GC.mk (n := 13) Tryz.func191 rfl rfl [K.pa p] rfl rfl ?_
 intro fr w hS
 replace hS : K.Sat w0 [gp, fr] w := hS
 refine K.s (K.g (K.q [.bool false] (K.z (K.t (K.s (K.g (K.q [K.pa p, .bool false, .bool false, K.pa p, K.pa p, K.pa p, .pointer (some ⟨p, 2, none⟩)] ?_)))))))
 refine K.d (K.iv S.pc) ((hS.blk 0 rfl hgp).cell rfl) ?_
 by_cases h_1 : (S.pc : Int) = (3 : Int)
 ·
  refine K.ye (S.pc : Int) (3 : Int) h_1 ?_
  refine K.q [.bool true, .bool true] (K.z (K.t (K.r ?_)))
  refine ⟨.inr rfl, rfl, (.bool true), K.res1 rfl rfl, [gp], ?_, hS.pick [0, 1]⟩
  exact ⟨rfl, .inl ⟨rfl, by omega⟩⟩
 ·
  refine K.xe (S.pc : Int) (3 : Int) h_1 ?_
  refine K.q [.bool false, .bool false] (K.z (K.t (K.r ?_)))
  refine ⟨.inr rfl, rfl, (.bool false), K.res1 rfl rfl, [gp], ?_, hS.pick [0, 1]⟩
  exact ⟨rfl, .inr ⟨rfl, by omega⟩⟩
set_option maxHeartbeats 1000000 in
set_option maxRecDepth 100000 in
theorem popStep_ok (w0 : World) (p b pm q n t : Nat) (c : Cfg) (hc : cfgOk c) (S : PopS) (M : MemM) (gp gl l : K.Cs) (hgp : gp = popPt p b S) (hgl : gl = layPt b c) (x : MemAt l pm q n t M) (hM : M.good) (hS : S.good) :
  K.GC Tryz.prog w0 174 #[K.pa p, K.pa pm] [gp, gl, l] (fun v post => ∃ gp' l', v = .bool (decide ((popStep c n S M).1.pc = 3)) ∧ post = [gp', gl, l'] ∧ gp' = popPt p b (popStep c n S M).1 ∧ MemAt l' pm q n t (popStep c n S M).2) := by
 obtain ⟨hSt, hS1, hS2⟩ := hS
 refine K.GC.mk (n := 120) Tryz.func174 rfl rfl [K.pa p, K.pa pm] rfl rfl ?_
 intro fr w hS
 replace hS : K.Sat w0 [gp, gl, l, fr] w := hS
 refine K.s (K.g (K.q [.bool false] (K.z (K.t (K.s (K.s (K.g (K.q [K.pa p] ?_))))))))
 refine K.l (K.OW.gcall hS [0] [1, 2, 3] [K.pa p] (popDone_ok _ _ _ ⟨S.t, S.pc, S.top, S.next, S.slot⟩ _ hgp) ?_)
 clear hS; rintro _ _ w ⟨rfl, (⟨rfl, h_1⟩ | ⟨rfl, h_2⟩)⟩ hS
 ·
  replace hS : K.Sat w0 [gp, gl, l, fr] w := hS
  refine K.z (K.t (K.h (K.s (K.g (K.q [.bool true] (K.z (K.t (K.r (K.u ?_)))))))))
  have e : popStep c n S M = (S, M) := by unfold popStep; rw [if_pos (by omega)]
  refine ⟨.inr rfl, rfl, (.bool true), K.res1 rfl rfl, [gp, gl, l], ?_, hS.pick [0, 1, 2, 3]⟩
  exact ⟨_, _, by rw [e]; exact congrArg Value.bool (decide_eq_true (by omega)).symm, rfl, by rw [e]; exact hgp, by rw [e]; exact x⟩
 ·
  replace hS : K.Sat w0 [gp, gl, l, fr] w := hS
  refine K.z (K.t (K.f (K.k (K.t (K.s (K.s (K.g (K.q [K.pa p, K.pa p, K.pa p, .pointer (some ⟨p, 2, none⟩)] ?_))))))))
  refine K.d (K.iv S.pc) ((hS.blk 0 rfl hgp).cell rfl) ?_
  refine K.z (K.t ?_)
  refine K.KW.block ?_
  refine K.s (K.g ?_)
  by_cases h_3 : (S.pc : Int) = (0 : Int)
  ·
   refine K.ye (S.pc : Int) (0 : Int) h_3 ?_
   refine K.q [.bool true] (K.z (K.t (K.h (K.s ?_))))
   refine K.KW.gdrawn [0] hS (by kernel_rfl) ?_
   clear hS; intro w hS
   refine K.p 0 rfl (K.pa p) (hS.pick [0]) ?_
   refine K.p 1 rfl (K.pa pm) (hS.pick [0]) ?_
   refine K.p 2 rfl (K.pa p) (hS.pick [0]) ?_
   refine K.p 3 rfl (K.pa p) (hS.pick [0]) ?_
   refine K.p 4 rfl (K.pa p) (hS.pick [0]) ?_
   refine K.p 5 rfl (.pointer (some ⟨p, 1, none⟩)) (hS.pick [0]) ?_
   refine K.o_ 6 rfl (K.iv S.t) (fun w hS => ((hS.blk 0 rfl hgp).cell rfl)) (hS.pick [0]) ?_
   refine K.b 7 rfl (K.pa p) (hS.pick [0]) ?_
   refine K.b 8 rfl (K.pa p) (hS.pick [0]) ?_
   refine K.b 9 rfl (K.pa p) (hS.pick [0]) ?_
   refine K.b 10 rfl (K.pa p) (hS.pick [0]) ?_
   refine K.c 11 rfl (K.QR.ld1 (v := K.pa b) rfl rfl (by kernel_rfl) ((hS.blk 0 rfl hgp).cell rfl)) (hS.pick [0]) ?_
   refine K.DW.l 12 rfl (by kernel_rfl) rfl (K.OW.kcall hS [K.pa b] (lFree _ c  _ (by assumption) (hS.blk 1 rfl hgl)) ?_)
   rintro _ w ⟨rfl, c_4⟩
   replace hS := hS.no c_4
   refine ⟨.inl (hS.pick [0]), ?_⟩
   refine K.DW.l 13 rfl (by kernel_rfl) rfl (K.OW.gcall hS [2] [0, 1, 3] [K.pa pm, K.iv S.t, K.iv (-2)] (mLoad_ok _ _ _ _ _ _ _ x S.t ((-2) : Int) (by first | omega | exact aft_int (by assumption) _ | exact ann_int (by assumption) _ (by omega)) ) ?_)
   clear hS; rintro _ _ w ⟨l_5, rfl, rfl, x_6⟩ hS
   replace hS : K.Sat w0 [l_5, gp, gl, fr] w := hS
   have hw_7 : isW (M.accL n S.t ((-2) : Int)).2.old := (accL_good (by assumption)).2
   refine ⟨.inl (hS.pick [1]), ?_⟩
   refine K.b 14 rfl (K.pa p) (hS.pick [1]) ?_
   refine K.b 15 rfl (.pointer (some ⟨p, 3, none⟩)) (hS.pick [1]) ?_
   refine K.DW.l 16 rfl (by kernel_rfl) rfl (K.OW.gst 1 [.int .u64 ((M.accL n S.t ((-2) : Int)).2.old)] _ hS hgp ?_)
   clear hS; intro w g_8 hg_9 hS
   replace hS : K.Sat w0 [l_5, g_8, gl, fr] w := hS
   refine ⟨.inr (by kernel_rfl), ?_⟩
   refine K.DW.done (by kernel_rfl) ?_
   refine K.t (K.s (K.g (K.q [K.pa p, K.pa p, K.pa p, .pointer (some ⟨p, 2, none⟩)] ?_)))
   refine K.l (K.OW.gst 1 [K.iv 1] _ hS hg_9 ?_)
   clear hS; intro w g_10 hg_11 hS
   replace hS : K.Sat w0 [l_5, g_10, gl, fr] w := hS
   refine K.z (K.t (K.s (K.g (K.q [K.pa p, K.pa p, .pointer (some ⟨p, 3, none⟩)] ?_))))
   refine K.d (.int .u64 ((M.accL n S.t ((-2) : Int)).2.old)) ((hS.blk 1 rfl hg_11).cell rfl) ?_
   refine K.l (K.OW.gcall hS [] [0, 1, 2, 3] [.int .u64 ((M.accL n S.t ((-2) : Int)).2.old)] (to_ok _ ((M.accL n S.t ((-2) : Int)).2.old) (by first | assumption | (unfold isW; omega))) ?_)
   clear hS; rintro _ _ w ⟨rfl, rfl⟩ hS
   replace hS : K.Sat w0 [l_5, g_10, gl, fr] w := hS
   by_cases h_12 : ((toI ((M.accL n S.t ((-2) : Int)).2.old)) : Int) = ((-1) : Int)
   ·
    refine K.ye ((toI ((M.accL n S.t ((-2) : Int)).2.old)) : Int) ((-1) : Int) h_12 ?_
    refine K.z (K.t (K.h (K.g (K.q [K.pa p, K.pa p, K.pa p, .pointer (some ⟨p, 2, none⟩)] ?_))))
    refine K.l (K.OW.gst 1 [K.iv 3] _ hS hg_11 ?_)
    clear hS; intro w g_13 hg_14 hS
    replace hS : K.Sat w0 [l_5, g_13, gl, fr] w := hS
    refine K.z ?_
    refine K.blk_normal ?_
    refine K.t (K.s (K.g (K.q [K.pa p, K.pa p, K.pa p, .pointer (some ⟨p, 2, none⟩)] ?_)))
    refine K.d (K.iv 3) ((hS.blk 1 rfl hg_14).cell rfl) ?_
    refine K.q [.bool true, .bool true] (K.z (K.t (K.r ?_)))
    have e : popStep c n S M = (⟨S.t, 3, (M.accL n S.t ((-2) : Int)).2.old, S.next, S.slot⟩, ((M.accL n S.t ((-2) : Int)).1)) := by unfold popStep; (repeat' split) <;> first | rfl | omega | simp_all
    refine ⟨.inr rfl, rfl, (.bool true), K.res1 rfl rfl, [g_13, gl, l_5], ?_, hS.pick [1, 2, 0, 3]⟩
    exact ⟨_, _, by rw [e]; rfl, rfl, by rw [e]; exact hg_14, by rw [e]; exact x_6⟩
   ·
    refine K.xe ((toI ((M.accL n S.t ((-2) : Int)).2.old)) : Int) ((-1) : Int) h_12 ?_
    refine K.z (K.t (K.f (K.k ?_)))
    refine K.blk_normal ?_
    refine K.t (K.s (K.g (K.q [K.pa p, K.pa p, K.pa p, .pointer (some ⟨p, 2, none⟩)] ?_)))
    refine K.d (K.iv 1) ((hS.blk 1 rfl hg_11).cell rfl) ?_
    refine K.q [.bool false, .bool false] (K.z (K.t (K.r ?_)))
    have e : popStep c n S M = (⟨S.t, 1, (M.accL n S.t ((-2) : Int)).2.old, S.next, S.slot⟩, ((M.accL n S.t ((-2) : Int)).1)) := by unfold popStep; (repeat' split) <;> first | rfl | omega | simp_all
    refine ⟨.inr rfl, rfl, (.bool false), K.res1 rfl rfl, [g_10, gl, l_5], ?_, hS.pick [1, 2, 0, 3]⟩
    exact ⟨_, _, by rw [e]; rfl, rfl, by rw [e]; exact hg_11, by rw [e]; exact x_6⟩
  ·
   refine K.xe (S.pc : Int) (0 : Int) h_3 ?_
   refine K.q [.bool false] (K.z (K.t (K.f (K.s (K.g ?_)))))
   by_cases h_15 : (S.pc : Int) = (1 : Int)
   ·
    refine K.ye (S.pc : Int) (1 : Int) h_15 ?_
    refine K.q [.bool true] (K.z (K.t (K.h (K.s ?_))))
    refine K.KW.gdrawn [0] hS (by kernel_rfl) ?_
    clear hS; intro w hS
    refine K.p 0 rfl (K.pa p) (hS.pick [0]) ?_
    refine K.p 1 rfl (K.pa pm) (hS.pick [0]) ?_
    refine K.p 2 rfl (K.pa p) (hS.pick [0]) ?_
    refine K.p 3 rfl (K.pa p) (hS.pick [0]) ?_
    refine K.p 4 rfl (K.pa p) (hS.pick [0]) ?_
    refine K.p 5 rfl (.pointer (some ⟨p, 1, none⟩)) (hS.pick [0]) ?_
    refine K.o_ 6 rfl (K.iv S.t) (fun w hS => ((hS.blk 0 rfl hgp).cell rfl)) (hS.pick [0]) ?_
    refine K.p 7 rfl (K.pa p) (hS.pick [0]) ?_
    refine K.p 8 rfl (K.pa p) (hS.pick [0]) ?_
    refine K.p 9 rfl (K.pa p) (hS.pick [0]) ?_
    refine K.p 10 rfl (K.pa p) (hS.pick [0]) ?_
    refine K.o_ 11 rfl (K.pa b) (fun w hS => ((hS.blk 0 rfl hgp).cell rfl)) (hS.pick [0]) ?_
    refine K.b 12 rfl (K.pa p) (hS.pick [0]) ?_
    refine K.b 13 rfl (K.pa p) (hS.pick [0]) ?_
    refine K.b 14 rfl (.pointer (some ⟨p, 3, none⟩)) (hS.pick [0]) ?_
    refine K.c 15 rfl (K.QR.ld1 (v := .int .u64 S.top) rfl rfl (by kernel_rfl) ((hS.blk 0 rfl hgp).cell rfl)) (hS.pick [0]) ?_
    refine K.DW.l 16 rfl (by kernel_rfl) rfl (K.OW.gcall hS [] [0, 1, 2, 3] [.int .u64 S.top] (to_ok _ S.top (by first | assumption | (unfold isW; omega))) ?_)
    clear hS; rintro _ _ w ⟨rfl, rfl⟩ hS
    replace hS : K.Sat w0 [gp, gl, l, fr] w := hS
    refine ⟨.inl (hS.pick [0]), ?_⟩
    refine K.DW.l 17 rfl (by kernel_rfl) rfl (K.OW.kcall hS [K.pa b, K.iv (toI S.top)] (lAfter _ c (toI S.top) _ (by assumption) (hS.blk 1 rfl hgl)) ?_)
    rintro _ w ⟨rfl, c_16⟩
    replace hS := hS.no c_16
    refine ⟨.inl (hS.pick [0]), ?_⟩
    refine K.DW.l 18 rfl (by kernel_rfl) rfl (K.OW.gcall hS [2] [0, 1, 3] [K.pa pm, K.iv S.t, K.iv (aftS c (toI S.top))] (mLoad_ok _ _ _ _ _ _ _ x S.t (aftS c (toI S.top)) (by first | omega | exact aft_int (by assumption) _ | exact ann_int (by assumption) _ (by omega)) ) ?_)
    clear hS; rintro _ _ w ⟨l_17, rfl, rfl, x_18⟩ hS
    replace hS : K.Sat w0 [l_17, gp, gl, fr] w := hS
    have hw_19 : isW (M.accL n S.t (aftS c (toI S.top))).2.old := (accL_good (by assumption)).2
    refine ⟨.inl (hS.pick [1]), ?_⟩
    refine K.b 19 rfl (K.pa p) (hS.pick [1]) ?_
    refine K.b 20 rfl (.pointer (some ⟨p, 4, none⟩)) (hS.pick [1]) ?_
    refine K.DW.l 21 rfl (by kernel_rfl) rfl (K.OW.gst 1 [.int .u64 ((M.accL n S.t (aftS c (toI S.top))).2.old)] _ hS hgp ?_)
    clear hS; intro w g_20 hg_21 hS
    replace hS : K.Sat w0 [l_17, g_20, gl, fr] w := hS
    refine ⟨.inr (by kernel_rfl), ?_⟩
    refine K.DW.done (by kernel_rfl) ?_
    refine K.t (K.g (K.q [K.pa p, K.pa p, K.pa p, .pointer (some ⟨p, 2, none⟩)] ?_))
    refine K.l (K.OW.gst 1 [K.iv 2] _ hS hg_21 ?_)
    clear hS; intro w g_22 hg_23 hS
    replace hS : K.Sat w0 [l_17, g_22, gl, fr] w := hS
    refine K.z ?_
    refine K.blk_normal ?_
    refine K.t (K.s (K.g (K.q [K.pa p, K.pa p, K.pa p, .pointer (some ⟨p, 2, none⟩)] ?_)))
    refine K.d (K.iv 2) ((hS.blk 1 rfl hg_23).cell rfl) ?_
    refine K.q [.bool false, .bool false] (K.z (K.t (K.r ?_)))
    have e : popStep c n S M = (⟨S.t, 2, S.top, (M.accL n S.t (aftS c (toI S.top))).2.old, S.slot⟩, ((M.accL n S.t (aftS c (toI S.top))).1)) := by unfold popStep; (repeat' split) <;> first | rfl | omega | simp_all
    refine ⟨.inr rfl, rfl, (.bool false), K.res1 rfl rfl, [g_22, gl, l_17], ?_, hS.pick [1, 2, 0, 3]⟩
    exact ⟨_, _, by rw [e]; rfl, rfl, by rw [e]; exact hg_23, by rw [e]; exact x_18⟩
   ·
    refine K.xe (S.pc : Int) (1 : Int) h_15 ?_
    refine K.q [.bool false] (K.z (K.t (K.f (K.s (K.g (K.q [K.pa p, K.pa p, K.pa p, .pointer (some ⟨p, 2, none⟩)] ?_))))))
    refine K.l (K.OW.gst 0 [K.iv 0] _ hS hgp ?_)
    clear hS; intro w g_24 hg_25 hS
    replace hS : K.Sat w0 [g_24, gl, l, fr] w := hS
    refine K.z (K.t (K.s ?_))
    refine K.KW.gdrawn [0] hS (by kernel_rfl) ?_
    clear hS; intro w hS
    refine K.p 0 rfl (K.pa pm) (hS.pick [0]) ?_
    refine K.p 1 rfl (K.pa p) (hS.pick [0]) ?_
    refine K.p 2 rfl (K.pa p) (hS.pick [0]) ?_
    refine K.p 3 rfl (K.pa p) (hS.pick [0]) ?_
    refine K.p 4 rfl (.pointer (some ⟨p, 1, none⟩)) (hS.pick [0]) ?_
    refine K.o_ 5 rfl (K.iv S.t) (fun w hS => ((hS.blk 0 rfl hg_25).cell rfl)) (hS.pick [0]) ?_
    refine K.p 6 rfl (K.pa p) (hS.pick [0]) ?_
    refine K.p 7 rfl (K.pa p) (hS.pick [0]) ?_
    refine K.p 8 rfl (K.pa p) (hS.pick [0]) ?_
    refine K.p 9 rfl (K.pa p) (hS.pick [0]) ?_
    refine K.o_ 10 rfl (K.pa b) (fun w hS => ((hS.blk 0 rfl hg_25).cell rfl)) (hS.pick [0]) ?_
    refine K.p 12 rfl (K.pa p) (hS.pick [0]) ?_
    refine K.p 13 rfl (K.pa p) (hS.pick [0]) ?_
    refine K.p 14 rfl (.pointer (some ⟨p, 3, none⟩)) (hS.pick [0]) ?_
    refine K.o_ 15 rfl (.int .u64 S.top) (fun w hS => ((hS.blk 0 rfl hg_25).cell rfl)) (hS.pick [0]) ?_
    refine K.p 16 rfl (K.pa p) (hS.pick [0]) ?_
    refine K.p 17 rfl (K.pa p) (hS.pick [0]) ?_
    refine K.p 18 rfl (.pointer (some ⟨p, 4, none⟩)) (hS.pick [0]) ?_
    refine K.o_ 19 rfl (.int .u64 S.next) (fun w hS => ((hS.blk 0 rfl hg_25).cell rfl)) (hS.pick [0]) ?_
    refine K.p 21 rfl (K.pa p) (hS.pick [0]) ?_
    refine K.p 22 rfl (K.pa p) (hS.pick [0]) ?_
    refine K.p 23 rfl (.pointer (some ⟨p, 3, none⟩)) (hS.pick [0]) ?_
    refine K.o_ 24 rfl (.int .u64 S.top) (fun w hS => ((hS.blk 0 rfl hg_25).cell rfl)) (hS.pick [0]) ?_
    refine K.DW.l 11 rfl (by kernel_rfl) rfl (K.OW.kcall hS [K.pa b] (lFree _ c  _ (by assumption) (hS.blk 1 rfl hgl)) ?_)
    rintro _ w ⟨rfl, c_26⟩
    replace hS := hS.no c_26
    refine ⟨.inl (hS.pick [0]), ?_⟩
    refine K.DW.l 20 rfl (by kernel_rfl) rfl (K.OW.gcall hS [] [0, 1, 2, 3] [.int .u64 S.next] (to_ok _ S.next (by first | assumption | (unfold isW; omega))) ?_)
    clear hS; rintro _ _ w ⟨rfl, rfl⟩ hS
    replace hS : K.Sat w0 [g_24, gl, l, fr] w := hS
    refine ⟨.inl (hS.pick [0]), ?_⟩
    refine K.DW.l 25 rfl (by kernel_rfl) rfl (K.OW.gcall hS [] [0, 1, 2, 3] [K.iv (toI S.next), .int .u64 S.top] (newer_ok _ (toI S.next) S.top (by first | omega | (unfold toI; omega)) (by first | assumption | (unfold isW; omega))) ?_)
    clear hS; rintro _ _ w ⟨rfl, rfl⟩ hS
    replace hS : K.Sat w0 [g_24, gl, l, fr] w := hS
    refine ⟨.inl (hS.pick [0]), ?_⟩
    refine K.DW.l 26 rfl (by kernel_rfl) rfl (K.OW.gcall hS [2] [0, 1, 3] [K.pa pm, K.iv S.t, K.iv (-2), .int .u64 S.top, .int .u64 (newerI (toI S.next) S.top)] (mSwap2_ok _ _ _ _ _ _ _ x S.t ((-2) : Int) (by first | omega | exact aft_int (by assumption) _ | exact ann_int (by assumption) _ (by omega)) S.top (newerI (toI S.next) S.top)) ?_)
    clear hS; rintro _ _ w ⟨l_29, rfl, x_30, (⟨rfl, h_27⟩ | ⟨rfl, h_28⟩)⟩ hS
    ·
     replace hS : K.Sat w0 [l_29, g_24, gl, fr] w := hS
     refine ⟨.inl (hS.pick [1]), ?_⟩
     refine K.DW.done (by kernel_rfl) ?_
     refine K.t (K.h (K.g (K.q [K.pa p, K.pa p, K.pa p, K.pa p, .pointer (some ⟨p, 3, none⟩)] ?_)))
     refine K.d (.int .u64 S.top) ((hS.blk 1 rfl hg_25).cell rfl) ?_
     refine K.l (K.OW.gcall hS [] [0, 1, 2, 3] [.int .u64 S.top] (to_ok _ S.top (by first | assumption | (unfold isW; omega))) ?_)
     clear hS; rintro _ _ w ⟨rfl, rfl⟩ hS
     replace hS : K.Sat w0 [l_29, g_24, gl, fr] w := hS
     refine K.q [K.pa p, .pointer (some ⟨p, 5, none⟩)] ?_
     refine K.l (K.OW.gst 1 [K.iv (toI S.top)] _ hS hg_25 ?_)
     clear hS; intro w g_31 hg_32 hS
     replace hS : K.Sat w0 [l_29, g_31, gl, fr] w := hS
     refine K.q [K.pa p, K.pa p, .pointer (some ⟨p, 2, none⟩)] ?_
     refine K.l (K.OW.gst 1 [K.iv 3] _ hS hg_32 ?_)
     clear hS; intro w g_33 hg_34 hS
     replace hS : K.Sat w0 [l_29, g_33, gl, fr] w := hS
     refine K.z ?_
     refine K.blk_normal ?_
     refine K.t (K.s (K.g (K.q [K.pa p, K.pa p, K.pa p, .pointer (some ⟨p, 2, none⟩)] ?_)))
     refine K.d (K.iv 3) ((hS.blk 1 rfl hg_34).cell rfl) ?_
     refine K.q [.bool true, .bool true] (K.z (K.t (K.r ?_)))
     have e : popStep c n S M = (⟨S.t, 3, S.top, S.next, (toI S.top)⟩, ((M.accW n S.t ((-2) : Int) S.top (newerI (toI S.next) S.top)).1)) := by unfold popStep; (repeat' split) <;> first | rfl | omega | simp_all
     refine ⟨.inr rfl, rfl, (.bool true), K.res1 rfl rfl, [g_33, gl, l_29], ?_, hS.pick [1, 2, 0, 3]⟩
     exact ⟨_, _, by rw [e]; rfl, rfl, by rw [e]; exact hg_34, by rw [e]; exact x_30⟩
    ·
     replace hS : K.Sat w0 [l_29, g_24, gl, fr] w := hS
     refine ⟨.inl (hS.pick [1]), ?_⟩
     refine K.DW.done (by kernel_rfl) ?_
     refine K.t (K.f (K.k ?_))
     refine K.blk_normal ?_
     refine K.t (K.s (K.g (K.q [K.pa p, K.pa p, K.pa p, .pointer (some ⟨p, 2, none⟩)] ?_)))
     refine K.d (K.iv 0) ((hS.blk 1 rfl hg_25).cell rfl) ?_
     refine K.q [.bool false, .bool false] (K.z (K.t (K.r ?_)))
     have e : popStep c n S M = (⟨S.t, 0, S.top, S.next, S.slot⟩, ((M.accW n S.t ((-2) : Int) S.top (newerI (toI S.next) S.top)).1)) := by unfold popStep; (repeat' split) <;> first | rfl | omega | simp_all
     refine ⟨.inr rfl, rfl, (.bool false), K.res1 rfl rfl, [g_24, gl, l_29], ?_, hS.pick [1, 2, 0, 3]⟩
     exact ⟨_, _, by rw [e]; rfl, rfl, by rw [e]; exact hg_25, by rw [e]; exact x_30⟩
set_option maxHeartbeats 1000000 in
set_option maxRecDepth 100000 in
theorem pushDone_ok (w0 : World) (p b : Nat) (S : PushS) (gp : K.Cs) (hgp : gp = pushPt p b S) :
  K.GC Tryz.prog w0 152 #[K.pa p] [gp] (fun v post => post = [gp] ∧ ((v = .bool true ∧ S.pc = 3) ∨ (v = .bool false ∧ ¬ S.pc = 3))) := by
 refine K.GC.mk (n := 13) Tryz.func152 rfl rfl [K.pa p] rfl rfl ?_
 intro fr w hS
 replace hS : K.Sat w0 [gp, fr] w := hS
 refine K.s (K.g (K.q [.bool false] (K.z (K.t (K.s (K.g (K.q [K.pa p, .bool false, .bool false, K.pa p, K.pa p, K.pa p, .pointer (some ⟨p, 2, none⟩)] ?_)))))))
 refine K.d (K.iv S.pc) ((hS.blk 0 rfl hgp).cell rfl) ?_
 by_cases h_1 : (S.pc : Int) = (3 : Int)
 ·
  refine K.ye (S.pc : Int) (3 : Int) h_1 ?_
  refine K.q [.bool true, .bool true] (K.z (K.t (K.r ?_)))
  refine ⟨.inr rfl, rfl, (.bool true), K.res1 rfl rfl, [gp], ?_, hS.pick [0, 1]⟩
  exact ⟨rfl, .inl ⟨rfl, by omega⟩⟩
 ·
  refine K.xe (S.pc : Int) (3 : Int) h_1 ?_
  refine K.q [.bool false, .bool false] (K.z (K.t (K.r ?_)))
  refine ⟨.inr rfl, rfl, (.bool false), K.res1 rfl rfl, [gp], ?_, hS.pick [0, 1]⟩
  exact ⟨rfl, .inr ⟨rfl, by omega⟩⟩
set_option maxHeartbeats 1000000 in
set_option maxRecDepth 100000 in
theorem pushStep_ok (w0 : World) (p b pm q n t : Nat) (c : Cfg) (hc : cfgOk c) (S : PushS) (M : MemM) (gp gl l : K.Cs) (hgp : gp = pushPt p b S) (hgl : gl = layPt b c) (x : MemAt l pm q n t M) (hM : M.good) (hS : S.good) :
  K.GC Tryz.prog w0 104 #[K.pa p, K.pa pm] [gp, gl, l] (fun v post => ∃ gp' l', v = .bool (decide ((pushStep c n S M).1.pc = 3)) ∧ post = [gp', gl, l'] ∧ gp' = pushPt p b (pushStep c n S M).1 ∧ MemAt l' pm q n t (pushStep c n S M).2) := by
 obtain ⟨hSt, hS1, hS2⟩ := hS
 refine K.GC.mk (n := 103) Tryz.func104 rfl rfl [K.pa p, K.pa pm] rfl rfl ?_
 intro fr w hS
 replace hS : K.Sat w0 [gp, gl, l, fr] w := hS
 refine K.s (K.g (K.q [.bool false] (K.z (K.t (K.s (K.s (K.g (K.q [K.pa p] ?_))))))))
 refine K.l (K.OW.gcall hS [0] [1, 2, 3] [K.pa p] (pushDone_ok _ _ _ ⟨S.t, S.pc, S.top, S.slot⟩ _ hgp) ?_)
 clear hS; rintro _ _ w ⟨rfl, (⟨rfl, h_1⟩ | ⟨rfl, h_2⟩)⟩ hS
 ·
  replace hS : K.Sat w0 [gp, gl, l, fr] w := hS
  refine K.z (K.t (K.h (K.s (K.g (K.q [.bool true] (K.z (K.t (K.r (K.u ?_)))))))))
  have e : pushStep c n S M = (S, M) := by unfold pushStep; rw [if_pos (by omega)]
  refine ⟨.inr rfl, rfl, (.bool true), K.res1 rfl rfl, [gp, gl, l], ?_, hS.pick [0, 1, 2, 3]⟩
  exact ⟨_, _, by rw [e]; exact congrArg Value.bool (decide_eq_true (by omega)).symm, rfl, by rw [e]; exact hgp, by rw [e]; exact x⟩
 ·
  replace hS : K.Sat w0 [gp, gl, l, fr] w := hS
  refine K.z (K.t (K.f (K.k (K.t (K.s (K.s (K.g (K.q [K.pa p, K.pa p, K.pa p, .pointer (some ⟨p, 2, none⟩)] ?_))))))))
  refine K.d (K.iv S.pc) ((hS.blk 0 rfl hgp).cell rfl) ?_
  refine K.z (K.t ?_)
  refine K.KW.block ?_
  refine K.s (K.g ?_)
  by_cases h_3 : (S.pc : Int) = (0 : Int)
  ·
   refine K.ye (S.pc : Int) (0 : Int) h_3 ?_
   refine K.q [.bool true] (K.z (K.t (K.h (K.s ?_))))
   refine K.KW.gdrawn [0] hS (by kernel_rfl) ?_
   clear hS; intro w hS
   refine K.p 0 rfl (K.pa p) (hS.pick [0]) ?_
   refine K.p 1 rfl (K.pa pm) (hS.pick [0]) ?_
   refine K.p 2 rfl (K.pa p) (hS.pick [0]) ?_
   refine K.p 3 rfl (K.pa p) (hS.pick [0]) ?_
   refine K.p 4 rfl (K.pa p) (hS.pick [0]) ?_
   refine K.p 5 rfl (.pointer (some ⟨p, 1, none⟩)) (hS.pick [0]) ?_
   refine K.o_ 6 rfl (K.iv S.t) (fun w hS => ((hS.blk 0 rfl hgp).cell rfl)) (hS.pick [0]) ?_
   refine K.b 7 rfl (K.pa p) (hS.pick [0]) ?_
   refine K.b 8 rfl (K.pa p) (hS.pick [0]) ?_
   refine K.b 9 rfl (K.pa p) (hS.pick [0]) ?_
   refine K.b 10 rfl (K.pa p) (hS.pick [0]) ?_
   refine K.c 11 rfl (K.QR.ld1 (v := K.pa b) rfl rfl (by kernel_rfl) ((hS.blk 0 rfl hgp).cell rfl)) (hS.pick [0]) ?_
   refine K.DW.l 12 rfl (by kernel_rfl) rfl (K.OW.kcall hS [K.pa b] (lFree _ c  _ (by assumption) (hS.blk 1 rfl hgl)) ?_)
   rintro _ w ⟨rfl, c_4⟩
   replace hS := hS.no c_4
   refine ⟨.inl (hS.pick [0]), ?_⟩
   refine K.DW.l 13 rfl (by kernel_rfl) rfl (K.OW.gcall hS [2] [0, 1, 3] [K.pa pm, K.iv S.t, K.iv (-2)] (mLoad_ok _ _ _ _ _ _ _ x S.t ((-2) : Int) (by first | omega | exact aft_int (by assumption) _ | exact ann_int (by assumption) _ (by omega)) ) ?_)
   clear hS; rintro _ _ w ⟨l_5, rfl, rfl, x_6⟩ hS
   replace hS : K.Sat w0 [l_5, gp, gl, fr] w := hS
   have hw_7 : isW (M.accL n S.t ((-2) : Int)).2.old := (accL_good (by assumption)).2
   refine ⟨.inl (hS.pick [1]), ?_⟩
   refine K.b 14 rfl (K.pa p) (hS.pick [1]) ?_
   refine K.b 15 rfl (.pointer (some ⟨p, 3, none⟩)) (hS.pick [1]) ?_
   refine K.DW.l 16 rfl (by kernel_rfl) rfl (K.OW.gst 1 [.int .u64 ((M.accL n S.t ((-2) : Int)).2.old)] _ hS hgp ?_)
   clear hS; intro w g_8 hg_9 hS
   replace hS : K.Sat w0 [l_5, g_8, gl, fr] w := hS
   refine ⟨.inr (by kernel_rfl), ?_⟩
   refine K.DW.done (by kernel_rfl) ?_
   refine K.t (K.g (K.q [K.pa p, K.pa p, K.pa p, .pointer (some ⟨p, 2, none⟩)] ?_))
   refine K.l (K.OW.gst 1 [K.iv 1] _ hS hg_9 ?_)
   clear hS; intro w g_10 hg_11 hS
   replace hS : K.Sat w0 [l_5, g_10, gl, fr] w := hS
   refine K.z ?_
   refine K.blk_normal ?_
   refine K.t (K.s (K.g (K.q [K.pa p, K.pa p, K.pa p, .pointer (some ⟨p, 2, none⟩)] ?_)))
   refine K.d (K.iv 1) ((hS.blk 1 rfl hg_11).cell rfl) ?_
   refine K.q [.bool false, .bool false] (K.z (K.t (K.r ?_)))
   have e : pushStep c n S M = (⟨S.t, 1, (M.accL n S.t ((-2) : Int)).2.old, S.slot⟩, ((M.accL n S.t ((-2) : Int)).1)) := by unfold pushStep; (repeat' split) <;> first | rfl | omega | simp_all
   refine ⟨.inr rfl, rfl, (.bool false), K.res1 rfl rfl, [g_10, gl, l_5], ?_, hS.pick [1, 2, 0, 3]⟩
   exact ⟨_, _, by rw [e]; rfl, rfl, by rw [e]; exact hg_11, by rw [e]; exact x_6⟩
  ·
   refine K.xe (S.pc : Int) (0 : Int) h_3 ?_
   refine K.q [.bool false] (K.z (K.t (K.f (K.s (K.g ?_)))))
   by_cases h_12 : (S.pc : Int) = (1 : Int)
   ·
    refine K.ye (S.pc : Int) (1 : Int) h_12 ?_
    refine K.q [.bool true] (K.z (K.t (K.h (K.s ?_))))
    refine K.KW.gdrawn [0] hS (by kernel_rfl) ?_
    clear hS; intro w hS
    refine K.p 0 rfl (K.pa pm) (hS.pick [0]) ?_
    refine K.p 1 rfl (K.pa p) (hS.pick [0]) ?_
    refine K.p 2 rfl (K.pa p) (hS.pick [0]) ?_
    refine K.p 3 rfl (K.pa p) (hS.pick [0]) ?_
    refine K.p 4 rfl (.pointer (some ⟨p, 1, none⟩)) (hS.pick [0]) ?_
    refine K.o_ 5 rfl (K.iv S.t) (fun w hS => ((hS.blk 0 rfl hgp).cell rfl)) (hS.pick [0]) ?_
    refine K.p 6 rfl (K.pa p) (hS.pick [0]) ?_
    refine K.p 7 rfl (K.pa p) (hS.pick [0]) ?_
    refine K.p 8 rfl (K.pa p) (hS.pick [0]) ?_
    refine K.p 9 rfl (K.pa p) (hS.pick [0]) ?_
    refine K.o_ 10 rfl (K.pa b) (fun w hS => ((hS.blk 0 rfl hgp).cell rfl)) (hS.pick [0]) ?_
    refine K.p 11 rfl (K.pa p) (hS.pick [0]) ?_
    refine K.p 12 rfl (K.pa p) (hS.pick [0]) ?_
    refine K.p 13 rfl (.pointer (some ⟨p, 4, none⟩)) (hS.pick [0]) ?_
    refine K.o_ 14 rfl (K.iv S.slot) (fun w hS => ((hS.blk 0 rfl hgp).cell rfl)) (hS.pick [0]) ?_
    refine K.p 16 rfl (K.pa p) (hS.pick [0]) ?_
    refine K.p 17 rfl (K.pa p) (hS.pick [0]) ?_
    refine K.p 18 rfl (.pointer (some ⟨p, 3, none⟩)) (hS.pick [0]) ?_
    refine K.o_ 19 rfl (.int .u64 S.top) (fun w hS => ((hS.blk 0 rfl hgp).cell rfl)) (hS.pick [0]) ?_
    refine K.DW.l 15 rfl (by kernel_rfl) rfl (K.OW.kcall hS [K.pa b, K.iv S.slot] (lAfter _ c S.slot _ (by assumption) (hS.blk 1 rfl hgl)) ?_)
    rintro _ w ⟨rfl, c_13⟩
    replace hS := hS.no c_13
    refine ⟨.inl (hS.pick [0]), ?_⟩
    refine K.DW.l 20 rfl (by kernel_rfl) rfl (K.OW.gcall hS [] [0, 1, 2, 3] [.int .u64 S.top] (to_ok _ S.top (by first | assumption | (unfold isW; omega))) ?_)
    clear hS; rintro _ _ w ⟨rfl, rfl⟩ hS
    replace hS : K.Sat w0 [gp, gl, l, fr] w := hS
    refine ⟨.inl (hS.pick [0]), ?_⟩
    refine K.DW.l 21 rfl (by kernel_rfl) rfl (K.OW.gcall hS [] [0, 1, 2, 3] [K.iv (toI S.top), .int .u32 0] (top_ok _ (toI S.top) (0 : Int) (by first | omega | (unfold toI; omega)) (by first | omega | decide)) ?_)
    clear hS; rintro _ _ w ⟨rfl, rfl⟩ hS
    replace hS : K.Sat w0 [gp, gl, l, fr] w := hS
    refine ⟨.inl (hS.pick [0]), ?_⟩
    refine K.DW.l 22 rfl (by kernel_rfl) rfl (K.OW.gcall hS [2] [0, 1, 3] [K.pa pm, K.iv S.t, K.iv (aftS c S.slot), .int .u64 (topI (toI S.top) (0 : Int))] (mStore_ok _ _ _ _ _ _ _ x S.t (aftS c S.slot) (by first | omega | exact aft_int (by assumption) _ | exact ann_int (by assumption) _ (by omega)) (topI (toI S.top) (0 : Int))) ?_)
    clear hS; rintro _ _ w ⟨l_14, rfl, rfl, x_15⟩ hS
    replace hS : K.Sat w0 [l_14, gp, gl, fr] w := hS
    refine ⟨.inl (hS.pick [1]), ?_⟩
    refine K.DW.done (by kernel_rfl) ?_
    refine K.t (K.g (K.q [K.pa p, K.pa p, K.pa p, .pointer (some ⟨p, 2, none⟩)] ?_))
    refine K.l (K.OW.gst 1 [K.iv 2] _ hS hgp ?_)
    clear hS; intro w g_16 hg_17 hS
    replace hS : K.Sat w0 [l_14, g_16, gl, fr] w := hS
    refine K.z ?_
    refine K.blk_normal ?_
    refine K.t (K.s (K.g (K.q [K.pa p, K.pa p, K.pa p, .pointer (some ⟨p, 2, none⟩)] ?_)))
    refine K.d (K.iv 2) ((hS.blk 1 rfl hg_17).cell rfl) ?_
    refine K.q [.bool false, .bool false] (K.z (K.t (K.r ?_)))
    have e : pushStep c n S M = (⟨S.t, 2, S.top, S.slot⟩, ((M.accS n S.t (aftS c S.slot) (topI (toI S.top) (0 : Int))).1)) := by unfold pushStep; (repeat' split) <;> first | rfl | omega | simp_all
    refine ⟨.inr rfl, rfl, (.bool false), K.res1 rfl rfl, [g_16, gl, l_14], ?_, hS.pick [1, 2, 0, 3]⟩
    exact ⟨_, _, by rw [e]; rfl, rfl, by rw [e]; exact hg_17, by rw [e]; exact x_15⟩
   ·
    refine K.xe (S.pc : Int) (1 : Int) h_12 ?_
    refine K.q [.bool false] (K.z (K.t (K.f (K.s (K.g (K.q [K.pa p, K.pa p, K.pa p, .pointer (some ⟨p, 2, none⟩)] ?_))))))
    refine K.l (K.OW.gst 0 [K.iv 0] _ hS hgp ?_)
    clear hS; intro w g_18 hg_19 hS
    replace hS : K.Sat w0 [g_18, gl, l, fr] w := hS
    refine K.z (K.t (K.s ?_))
    refine K.KW.gdrawn [0] hS (by kernel_rfl) ?_
    clear hS; intro w hS
    refine K.p 0 rfl (K.pa pm) (hS.pick [0]) ?_
    refine K.p 1 rfl (K.pa p) (hS.pick [0]) ?_
    refine K.p 2 rfl (K.pa p) (hS.pick [0]) ?_
    refine K.p 3 rfl (K.pa p) (hS.pick [0]) ?_
    refine K.p 4 rfl (.pointer (some ⟨p, 1, none⟩)) (hS.pick [0]) ?_
    refine K.o_ 5 rfl (K.iv S.t) (fun w hS => ((hS.blk 0 rfl hg_19).cell rfl)) (hS.pick [0]) ?_
    refine K.p 6 rfl (K.pa p) (hS.pick [0]) ?_
    refine K.p 7 rfl (K.pa p) (hS.pick [0]) ?_
    refine K.p 8 rfl (K.pa p) (hS.pick [0]) ?_
    refine K.p 9 rfl (K.pa p) (hS.pick [0]) ?_
    refine K.o_ 10 rfl (K.pa b) (fun w hS => ((hS.blk 0 rfl hg_19).cell rfl)) (hS.pick [0]) ?_
    refine K.p 12 rfl (K.pa p) (hS.pick [0]) ?_
    refine K.p 13 rfl (K.pa p) (hS.pick [0]) ?_
    refine K.p 14 rfl (.pointer (some ⟨p, 3, none⟩)) (hS.pick [0]) ?_
    refine K.o_ 15 rfl (.int .u64 S.top) (fun w hS => ((hS.blk 0 rfl hg_19).cell rfl)) (hS.pick [0]) ?_
    refine K.p 16 rfl (K.pa p) (hS.pick [0]) ?_
    refine K.p 17 rfl (K.pa p) (hS.pick [0]) ?_
    refine K.p 18 rfl (.pointer (some ⟨p, 4, none⟩)) (hS.pick [0]) ?_
    refine K.o_ 19 rfl (K.iv S.slot) (fun w hS => ((hS.blk 0 rfl hg_19).cell rfl)) (hS.pick [0]) ?_
    refine K.p 20 rfl (K.pa p) (hS.pick [0]) ?_
    refine K.p 21 rfl (K.pa p) (hS.pick [0]) ?_
    refine K.p 22 rfl (.pointer (some ⟨p, 3, none⟩)) (hS.pick [0]) ?_
    refine K.o_ 23 rfl (.int .u64 S.top) (fun w hS => ((hS.blk 0 rfl hg_19).cell rfl)) (hS.pick [0]) ?_
    refine K.DW.l 11 rfl (by kernel_rfl) rfl (K.OW.kcall hS [K.pa b] (lFree _ c  _ (by assumption) (hS.blk 1 rfl hgl)) ?_)
    rintro _ w ⟨rfl, c_20⟩
    replace hS := hS.no c_20
    refine ⟨.inl (hS.pick [0]), ?_⟩
    refine K.DW.l 24 rfl (by kernel_rfl) rfl (K.OW.gcall hS [] [0, 1, 2, 3] [K.iv S.slot, .int .u64 S.top] (newer_ok _ S.slot S.top (by first | omega | (unfold toI; omega)) (by first | assumption | (unfold isW; omega))) ?_)
    clear hS; rintro _ _ w ⟨rfl, rfl⟩ hS
    replace hS : K.Sat w0 [g_18, gl, l, fr] w := hS
    refine ⟨.inl (hS.pick [0]), ?_⟩
    refine K.DW.l 25 rfl (by kernel_rfl) rfl (K.OW.gcall hS [2] [0, 1, 3] [K.pa pm, K.iv S.t, K.iv (-2), .int .u64 S.top, .int .u64 (newerI S.slot S.top)] (mSwap2_ok _ _ _ _ _ _ _ x S.t ((-2) : Int) (by first | omega | exact aft_int (by assumption) _ | exact ann_int (by assumption) _ (by omega)) S.top (newerI S.slot S.top)) ?_)
    clear hS; rintro _ _ w ⟨l_23, rfl, x_24, (⟨rfl, h_21⟩ | ⟨rfl, h_22⟩)⟩ hS
    ·
     replace hS : K.Sat w0 [l_23, g_18, gl, fr] w := hS
     refine ⟨.inl (hS.pick [1]), ?_⟩
     refine K.DW.done (by kernel_rfl) ?_
     refine K.t (K.h (K.g (K.q [K.pa p, K.pa p, K.pa p, .pointer (some ⟨p, 2, none⟩)] ?_)))
     refine K.l (K.OW.gst 1 [K.iv 3] _ hS hg_19 ?_)
     clear hS; intro w g_25 hg_26 hS
     replace hS : K.Sat w0 [l_23, g_25, gl, fr] w := hS
     refine K.z ?_
     refine K.blk_normal ?_
     refine K.t (K.s (K.g (K.q [K.pa p, K.pa p, K.pa p, .pointer (some ⟨p, 2, none⟩)] ?_)))
     refine K.d (K.iv 3) ((hS.blk 1 rfl hg_26).cell rfl) ?_
     refine K.q [.bool true, .bool true] (K.z (K.t (K.r ?_)))
     have e : pushStep c n S M = (⟨S.t, 3, S.top, S.slot⟩, ((M.accW n S.t ((-2) : Int) S.top (newerI S.slot S.top)).1)) := by unfold pushStep; (repeat' split) <;> first | rfl | omega | simp_all
     refine ⟨.inr rfl, rfl, (.bool true), K.res1 rfl rfl, [g_25, gl, l_23], ?_, hS.pick [1, 2, 0, 3]⟩
     exact ⟨_, _, by rw [e]; rfl, rfl, by rw [e]; exact hg_26, by rw [e]; exact x_24⟩
    ·
     replace hS : K.Sat w0 [l_23, g_18, gl, fr] w := hS
     refine ⟨.inl (hS.pick [1]), ?_⟩
     refine K.DW.done (by kernel_rfl) ?_
     refine K.t (K.f (K.k ?_))
     refine K.blk_normal ?_
     refine K.t (K.s (K.g (K.q [K.pa p, K.pa p, K.pa p, .pointer (some ⟨p, 2, none⟩)] ?_)))
     refine K.d (K.iv 0) ((hS.blk 1 rfl hg_19).cell rfl) ?_
     refine K.q [.bool false, .bool false] (K.z (K.t (K.r ?_)))
     have e : pushStep c n S M = (⟨S.t, 0, S.top, S.slot⟩, ((M.accW n S.t ((-2) : Int) S.top (newerI S.slot S.top)).1)) := by unfold pushStep; (repeat' split) <;> first | rfl | omega | simp_all
     refine ⟨.inr rfl, rfl, (.bool false), K.res1 rfl rfl, [g_18, gl, l_23], ?_, hS.pick [1, 2, 0, 3]⟩
     exact ⟨_, _, by rw [e]; rfl, rfl, by rw [e]; exact hg_19, by rw [e]; exact x_24⟩
end Go.Proofs.YtbfafebfkdbglaaGreat
