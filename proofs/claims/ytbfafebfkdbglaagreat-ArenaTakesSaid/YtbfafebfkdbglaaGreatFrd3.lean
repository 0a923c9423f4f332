import Derived.Test.YtbfafebfkdbglaaGreatFrd2
import Derived.Test.YtbfafebfkdbglaaGreatFlist
/- The document's device: what it does. -/
namespace Go.Proofs.YtbfafebfkdbglaaGreat
open Go.RowKit
set_option linter.unusedVariables false
attribute [local irreducible] K.KW K.RW K.DW K.OW K.QR K.KC
def copyK (Kp S : List Int) (n k : Nat) : List Int := Kp.take (8 * n) ++ (S.drop (8 * n)).take k ++ Kp.drop (8 * n + k)
theorem copyK_zero (Kp S : List Int) (n : Nat) : copyK Kp S n 0 = Kp := by unfold copyK; simp
theorem copyK_len {Kp S : List Int} {n k N : Nat} (hK : Kp.length = N * 8) (hS : S.length = N * 8) (hn : n < N) (hk : k ≤ 8) : (copyK Kp S n k).length = N * 8 := by
 unfold copyK
 simp only [List.length_append, List.length_take, List.length_drop]; omega
theorem copyK_succ {Kp S : List Int} {n k N : Nat} (hK : Kp.length = N * 8) (hS : S.length = N * 8) (hn : n < N) (hk : k < 8) : (copyK Kp S n k).set (8 * n + k) (S.getD (8 * n + k) 0) = copyK Kp S n (k + 1) := by
 unfold copyK
 have h1 : (Kp.take (8 * n) ++ (S.drop (8 * n)).take k).length = 8 * n + k := by simp only [List.length_append, List.length_take, List.length_drop]; omega
 rw [List.set_append_right _ _ (by omega), h1, Nat.sub_self, List.drop_eq_getElem_cons (l := Kp) (i := 8 * n + k) (by omega), List.set_cons_zero, List.take_succ_eq_append_getElem (l := S.drop (8 * n)) (by rw [List.length_drop]; omega)]
 simp [show 8 * n + k < S.length by omega, Nat.add_assoc]
theorem copyK_8 (Kp S : List Int) (n : Nat) : copyK Kp S n 8 = copyL Kp S n := by unfold copyK copyL; rw [Nat.mul_comm]
def backsTo (p : Nat → Bool) (j : Nat) (D : DevM) : DevM := (List.range j).foldl (fun D x => if p x then D.back x else D) D
section
variable {p : Nat → Bool} {D : DevM} {j n t : Nat}
theorem backsTo_succ : backsTo p (j + 1) D = if p j then (backsTo p j D).back j else backsTo p j D := by unfold backsTo; rw [List.range_succ, List.foldl_append]; rfl
theorem backs_f (h : p j = false) : backsTo p (j + 1) D = backsTo p j D := by rw [backsTo_succ, h]; rfl
theorem backs_t (h : p j = true) : backsTo p (j + 1) D = (backsTo p j D).back j := by rw [backsTo_succ, h]; rfl
theorem backsTo_seen : ∀ j, (backsTo p j D).seen = D.seen
 | 0 => rfl
 | j + 1 => by rw [backsTo_succ]; split <;> exact backsTo_seen j
theorem backsTo_flush : ∀ j, (backsTo p j D).flush = D.flush
 | 0 => rfl
 | j + 1 => by rw [backsTo_succ]; split <;> exact backsTo_flush j
theorem backsTo_ok (h : D.ok n t) : ∀ j, j ≤ n → (backsTo p j D).ok n t
 | 0, _ => h
 | j + 1, hj => by
  rw [backsTo_succ]
  split
  ·exact (backsTo_ok h j (by omega)).back (by omega)
  ·exact backsTo_ok h j (by omega)
theorem backs_kept (h : p j = true) : (backsTo p (j + 1) D).kept = copyK (backsTo p j D).kept D.seen j 8 := by rw [backs_t h, copyK_8]; unfold DevM.back; rw [backsTo_seen]
theorem backs_writes (h : p j = true) : (backsTo p (j + 1) D).writes = (backsTo p j D).writes.set j (IntKind.i64.wrap ((backsTo p j D).writes.getD j 0 + 1)) := by rw [backs_t h]; rfl
end
/-- the lines of a set, one behind the other, are those that it names -/
theorem foldl_trues (D : DevM) : ∀ (B : List Bool) (k : Nat), (truesF k B).foldl (fun D x => D.back x.toNat) D = (List.range B.length).foldl (fun D x => if B.getD x false then D.back (k + x) else D) D := by
 intro B
 induction B generalizing D with
 | nil => intro k; rfl
 | cons b B ih =>
  intro k
  rw [List.length_cons, List.range_succ_eq_map, List.foldl_cons, List.foldl_map]
  have e : (List.foldl (fun (D : DevM) (x : Nat) => if (b :: B).getD (Nat.succ x) false = true then D.back (k + Nat.succ x) else D)) = (List.foldl (fun (D : DevM) (x : Nat) => if B.getD x false = true then D.back (k + 1 + x) else D)) := by
   congr 1; funext D x
   rw [show k + Nat.succ x = k + 1 + x by omega]; rfl
  rw [e]
  unfold truesF
  cases b with
  | true => exact ih _ (k + 1)
  | false => exact ih _ (k + 1)
theorem foldl_clear (t : Nat) (B : List Bool) : ∀ (l : List Int) (D : DevM), l.foldl (fun D x => D.back x.toNat) (D.set t B) = (l.foldl (fun D x => D.back x.toNat) D).set t B
 | [], _ => rfl
 | x :: l, D => foldl_clear t B l (D.back x.toNat)
theorem fence_eq (D : DevM) (t : Nat) : D.fence t = (backsTo (fun x => (D.flush.getD t []).getD x false) (D.flush.getD t []).length D).set t (List.replicate (D.flush.getD t []).length false) := by
 unfold DevM.fence DevM.clear backsTo trues
 rw [foldl_clear, foldl_trues]
 simp
def clrTo (c : Nat → Bool) (q : Nat) (fl : List (List Bool)) : List (List Bool) := fl.mapIdx fun i B => if c i && decide (i < q) then clr B else B
def rowTo (b : Bool) (m : Nat) (B : List Bool) : List Bool := if b then List.replicate m false ++ B.drop m else B
section
variable {c : Nat → Bool} {q m n : Nat} {fl : List (List Bool)} {B : List Bool} {b : Bool}
theorem clrTo_len : (clrTo c q fl).length = fl.length := by simp [clrTo]
theorem clrTo_zero : clrTo c 0 fl = fl := by
 apply List.ext_getElem (by simp [clrTo])
 intro i h1 h2
 simp [clrTo]
theorem clrTo_get (h : q < fl.length) : (clrTo c q fl).getD q [] = fl.getD q [] := by
 simp [clrTo, h]
theorem rowTo_len (h : m ≤ B.length) : (rowTo b m B).length = B.length := by
 unfold rowTo
 split
 ·rw [List.length_append, List.length_replicate, List.length_drop]; omega
 ·rfl
theorem rowTo_zero : rowTo b 0 B = B := by unfold rowTo; split <;> simp
theorem rowTo_set (h : m < B.length) : (rowTo true m B).set m false = rowTo true (m + 1) B := by
 unfold rowTo
 rw [if_pos rfl, if_pos rfl, List.set_append_right _ _ (by simp), List.length_replicate, Nat.sub_self, List.drop_eq_getElem_cons h, List.set_cons_zero, List.replicate_succ', List.append_assoc]; rfl
theorem clr_start (h : q < fl.length) : (clrTo c q fl).set q (rowTo b 0 (fl.getD q [])) = clrTo c q fl := by
 rw [rowTo_zero, ← clrTo_get (c := c) h]; exact set_getD (by rw [clrTo_len]; exact h)
theorem clr_next (h : q < fl.length) (hn : (fl.getD q []).length = n) : (clrTo c q fl).set q (rowTo (c q) n (fl.getD q [])) = clrTo c (q + 1) fl := by
 have hq : fl.getD q [] = fl[q] := by simp [h]
 rw [hq] at hn ⊢
 apply List.ext_getElem (by simp [clrTo])
 intro i h1 h2
 rw [List.getElem_set]
 by_cases e : q = i
 ·subst e
  rw [if_pos rfl]
  simp only [clrTo, List.getElem_mapIdx, rowTo]
  cases hc : c q <;> simp [clr, hn]
 ·rw [if_neg e]
  simp only [clrTo, List.getElem_mapIdx]
  have : decide (i < q) = decide (i < q + 1) := by by_cases h3 : i < q <;> simp [h3] <;> omega
  rw [this]
theorem getD_set_self {α : Type} {l : List α} {k : Nat} {x d : α} (h : k < l.length) : (l.set k x).getD k d = x := by simp [h]
theorem clr_all {t : Nat} (h : fl.length = t) : clrTo (fun _ => true) t fl = fl.map clr := by
 apply List.ext_getElem (by simp [clrTo])
 intro i h1 h2
 have : i < fl.length := by simpa using h2
 simp [clrTo]; omega
theorem clr_one {t : Nat} {i : Int} (h : fl.length = t) (hi : 0 ≤ i ∧ i < t) : clrTo (fun x => decide ((x : Int) = i)) t fl = fl.set i.toNat (List.replicate (fl.getD i.toNat []).length false) := by
 apply List.ext_getElem (by simp [clrTo])
 intro k h1 h2
 have hk : k < fl.length := by simpa using h2
 rw [List.getElem_set]
 by_cases e : i.toNat = k
 ·subst e
  rw [if_pos rfl]
  have hgd : fl.getD i.toNat [] = fl[i.toNat] := by simp [hk]
  rw [hgd]
  simp only [clrTo, List.getElem_mapIdx]
  rw [if_pos (by simp; omega)]; rfl
 ·rw [if_neg e]
  simp only [clrTo, List.getElem_mapIdx]
  rw [if_neg (by simp; omega)]
theorem pre_set {Kp S : List Int} {u : Nat} (h : u < Kp.length) (h2 : u < S.length) : (Kp.take u ++ S.drop u).set u (Kp.getD u 0) = Kp.take (u + 1) ++ S.drop (u + 1) := by
 rw [List.set_append_right _ _ (by rw [List.length_take]; omega), List.length_take, Nat.min_eq_left (by omega), Nat.sub_self, List.drop_eq_getElem_cons h2, List.set_cons_zero, List.take_succ_eq_append_getElem h, List.append_assoc]
 simp [h]
theorem pre_len {Kp S : List Int} {u N : Nat} (h : Kp.length = N) (h2 : S.length = N) (hu : u ≤ N) : (Kp.take u ++ S.drop u).length = N := by simp; omega
end
theorem backs_one {D : DevM} {n : Nat} {j : Int} (hj : 0 ≤ j ∧ j < n) : backsTo (fun x => decide ((x : Int) = j)) n D = D.back j.toNat := by
 have key : ∀ k : Nat, backsTo (fun x => decide ((x : Int) = j)) k D = if j < k then D.back j.toNat else D := by
  intro k
  induction k with
  | zero => rw [if_neg (by omega)]; rfl
  | succ k ih =>
   rw [backsTo_succ, ih]
   by_cases e : (k : Int) = j
   ·rw [if_pos (decide_eq_true e), if_neg (by omega), if_pos (by omega), show j.toNat = k by omega]
   ·rw [if_neg (by simpa using e)]
    by_cases h : j < k
    ·rw [if_pos h, if_pos (by omega)]
    ·rw [if_neg h, if_neg (by omega)]
 rw [key n, if_pos hj.2]
set_option maxHeartbeats 1000000 in
set_option maxRecDepth 100000 in
theorem rdDo0_ok (w0 : World) (p n t : Nat) (D : DevM) (l : K.Cs) (x : RDevAt l p n t D) (i j : Int) (hi : isInt i) (hj : isInt j) :
  K.GC Tryz.prog w0 85 #[K.pa p, K.iv 0, K.iv i, K.iv j] [l] (fun v post => (v = K.iv 0 ∧ ((0 ≤ i ∧ i < t ∧ 0 ≤ j ∧ j < n)) ∧ ∃ l', post = [l'] ∧ RDevAt l' p n t (D.mark i.toNat j.toNat)) ∨ (v = K.iv 1 ∧ ¬(0 ≤ i ∧ i < t) ∧ post = [l]) ∨ (v = K.iv 5 ∧ (0 ≤ i ∧ i < t ∧ ¬(0 ≤ j ∧ j < n)) ∧ post = [l])) := by
 refine K.GC.mk (n := 202) Tryz.func85 rfl rfl [K.pa p, K.iv 0, K.iv i, K.iv j] rfl rfl ?_
 intro fr w hS
 replace hS : K.Sat w0 [l, fr] w := hS
 obtain ⟨g, gk, gs, gw, gf, gz, vs, ka, sa, wa, fa, ck, cs, cw, cf, rfl, hg, ok, os, ow, of, lv, oz, dk⟩ := x
 have dk2 := dk; obtain ⟨lk, ls, lw, lf, lB, n0, n1, t0, t1⟩ := dk2
 replace hS : K.Sat w0 [g, gk, gs, gw, gf, gz, fr] w := hS.of
 refine K.s (K.g (K.q [K.iv 0] (K.z (K.t (K.s (K.s (K.g (K.q [K.iv 0, .bool true, .bool true] (K.n_ (K.n_ (K.q [.bool true, .bool true, K.iv i] ?_)))))))))))
 by_cases h_1 : (i : Int) < (0 : Int)
 ·
  refine K.y ((i : Int) < (0 : Int)) h_1 ?_
  refine K.q [.bool true] (K.n_ (K.n_ (K.n_ (K.n_ (K.n_ (K.n_ (K.n_ (K.q [.bool true, .bool true] (K.z (K.t (K.h (K.s (K.g (K.q [K.iv 1] ?_))))))))))))))
  refine K.z (K.t (K.r (K.u ?_)))
  replace hS : K.Sat w0 [[g, gk, gs, gw, gf, gz].flatten, fr] w := (hS.pick [0, 1, 2, 3, 4, 5, 6]).of
  refine ⟨.inr rfl, rfl, (K.iv 1), K.res1 rfl rfl, [[g, gk, gs, gw, gf, gz].flatten], ?_, hS.pick [0, 1]⟩
  exact .inr (.inl ⟨rfl, by omega, rfl⟩)
 ·
  refine K.x ((i : Int) < (0 : Int)) h_1 ?_
  refine K.q [.bool false, K.iv i, K.pa p, K.pa p, .pointer (some ⟨p, 3, none⟩)] ?_
  refine K.d (.slice fa t cf) ((hS.blk 0 rfl hg).cell rfl) ?_
  refine K.a (K.QR.len (P := Tryz.prog) rfl rfl Tryz.underlying158) ?_
  by_cases h_2 : (i : Int) ≥ (((t : Nat) : Int) : Int)
  ·
   refine K.y ((i : Int) ≥ (((t : Nat) : Int) : Int)) h_2 ?_
   refine K.q [.bool true, .bool true] (K.z (K.t (K.h (K.s (K.g (K.q [K.iv 1] (K.z (K.t (K.r (K.u ?_))))))))))
   replace hS : K.Sat w0 [[g, gk, gs, gw, gf, gz].flatten, fr] w := (hS.pick [0, 1, 2, 3, 4, 5, 6]).of
   refine ⟨.inr rfl, rfl, (K.iv 1), K.res1 rfl rfl, [[g, gk, gs, gw, gf, gz].flatten], ?_, hS.pick [0, 1]⟩
   exact .inr (.inl ⟨rfl, by omega, rfl⟩)
  ·
   refine K.x ((i : Int) ≥ (((t : Nat) : Int) : Int)) h_2 ?_
   refine K.q [.bool false, .bool false] (K.z (K.t (K.f (K.k (K.t (K.s (K.s (K.g (K.q [K.iv 0, .bool true, .bool true] (K.n_ (K.n_ (K.q [.bool true, .bool true, K.iv j] ?_))))))))))))
   by_cases h_3 : (j : Int) < (0 : Int)
   ·
    refine K.y ((j : Int) < (0 : Int)) h_3 ?_
    refine K.q [.bool true] (K.n_ (K.n_ (K.n_ (K.n_ (K.n_ (K.n_ (K.n_ (K.q [.bool true, .bool true] (K.z (K.t (K.h (K.s (K.g (K.q [K.iv 5] ?_))))))))))))))
    refine K.z (K.t (K.r (K.u ?_)))
    replace hS : K.Sat w0 [[g, gk, gs, gw, gf, gz].flatten, fr] w := (hS.pick [0, 1, 2, 3, 4, 5, 6]).of
    refine ⟨.inr rfl, rfl, (K.iv 5), K.res1 rfl rfl, [[g, gk, gs, gw, gf, gz].flatten], ?_, hS.pick [0, 1]⟩
    exact .inr (.inr (⟨rfl, by omega, rfl⟩))
   ·
    refine K.x ((j : Int) < (0 : Int)) h_3 ?_
    refine K.q [.bool false, K.iv j, K.pa p, K.pa p, .pointer (some ⟨p, 2, none⟩)] ?_
    refine K.d (.slice wa n cw) ((hS.blk 0 rfl hg).cell rfl) ?_
    refine K.a (K.QR.len (P := Tryz.prog) rfl rfl Tryz.underlying44) ?_
    by_cases h_4 : (j : Int) ≥ (((n : Nat) : Int) : Int)
    ·
     refine K.y ((j : Int) ≥ (((n : Nat) : Int) : Int)) h_4 ?_
     refine K.q [.bool true, .bool true] (K.z (K.t (K.h (K.s (K.g (K.q [K.iv 5] (K.z (K.t (K.r (K.u ?_))))))))))
     replace hS : K.Sat w0 [[g, gk, gs, gw, gf, gz].flatten, fr] w := (hS.pick [0, 1, 2, 3, 4, 5, 6]).of
     refine ⟨.inr rfl, rfl, (K.iv 5), K.res1 rfl rfl, [[g, gk, gs, gw, gf, gz].flatten], ?_, hS.pick [0, 1]⟩
     exact .inr (.inr (⟨rfl, by omega, rfl⟩))
    ·
     refine K.x ((j : Int) ≥ (((n : Nat) : Int) : Int)) h_4 ?_
     refine K.q [.bool false, .bool false] (K.z (K.t (K.f (K.k (K.t (K.s (K.s ?_)))))))
     obtain ⟨b_5, rfl⟩ := ok.some_ (by have := ok.le; omega)
     obtain ⟨b_7, rfl⟩ := os.some_ (by have := os.le; omega)
     obtain ⟨b_9, rfl⟩ := ow.some_ (by have := ow.le; omega)
     obtain ⟨b_11, rfl⟩ := of.some_ (by have := of.le; omega)
     refine K.g (K.q [K.iv 0, .bool true] (K.z (K.t (K.h (K.s ?_)))))
     have hBn := lB _ (mem_getD (l := D.flush) (k := i.toNat) [] (by omega))
     obtain ⟨gA, gi, gC, vi, rfl, hvk, hbg, hset⟩ := oz.at [] i.toNat (by omega)
     obtain ⟨ia, ic, rfl, oi⟩ := hbg
     replace hS : K.Sat w0 [g, gk, gs, gw, gf, gA, gi, gC, fr] w := hS.of
     refine K.g (K.q [K.pa p, K.pa p, .pointer (some ⟨p, 3, none⟩)] ?_)
     refine K.d (.slice (some ⟨b_11, 0, none⟩) t cf) ((hS.blk 0 rfl hg).cell rfl) ?_
     refine K.q [K.iv i] ?_
     refine K.a (K.QR.ix i.toNat 1 rfl rfl rfl Tryz.underlying158 (by kernel_rfl) (by omega) (by first | (simp; done) | omega | (simp; omega))) ?_
     refine K.d (.slice ia ((D.flush.getD i.toNat []).length) ic) (dv_ld (hS.ownr 4 rfl of) lv hvk) ?_
     refine K.q [K.iv j] ?_
     obtain ⟨b_13, rfl⟩ := oi.some_ (by have := oi.le; omega)
     refine K.a (K.QR.ix j.toNat 1 rfl rfl rfl Tryz.underlying26 (by kernel_rfl) (by omega) (by first | (simp; done) | omega | (simp; omega))) ?_
     refine K.l (K.OW.grst 6 j.toNat [.bool true] ((((D.flush.getD i.toNat []).set j.toNat true)).flatMap cBool) hS oi ?_ (by show _ + 1 ≤ _; omega) (K.set1 (c := cBool) (D.flush.getD i.toNat []) j.toNat true (by omega)))
     clear hS; intro w l_15 o_16 hS
     have ln_17 : (((D.flush.getD i.toNat []).set j.toNat true)).length = _ := (List.length_set).trans rfl
     replace hS : K.Sat w0 [g, gk, gs, gw, gf, gA, l_15, gC, fr] w := hS
     refine K.z (K.t (K.s (K.g (K.q [K.iv 0] (K.z (K.t (K.r (K.u ?_))))))))
     replace hS : K.Sat w0 [[gA, l_15, gC].flatten, g, gk, gs, gw, gf, fr] w := (hS.pick [5, 6, 7, 0, 1, 2, 3, 4, 8]).of
     replace hS : K.Sat w0 [g, gk, gs, gw, gf, [gA, l_15, gC].flatten, fr] w := hS.pick [1, 2, 3, 4, 5, 0, 6]
     replace hS : K.Sat w0 [[g, gk, gs, gw, gf, [gA, l_15, gC].flatten].flatten, fr] w := (hS.pick [0, 1, 2, 3, 4, 5, 6]).of
     refine ⟨.inr rfl, rfl, (K.iv 0), K.res1 rfl rfl, [[g, gk, gs, gw, gf, [gA, l_15, gC].flatten].flatten], ?_, hS.pick [0, 1]⟩
     exact .inl ⟨rfl, by omega, _, rfl, ⟨_, _, _, _, _, _, _, _, _, _, _, _, _, _, _, rfl, hg, ok, os, ow, of, lv, ((hset _ (.slice (some ⟨b_13, 0, none⟩) ((D.flush.getD i.toNat []).length) ic) ((D.flush.getD i.toNat []).set j.toNat true) ⟨_, _, by rw [List.length_set], by rw [List.length_set]; exact o_16⟩).same rfl (set_self hvk) rfl), (dk.set (by rw [List.length_set]; exact hBn))⟩⟩
set_option maxHeartbeats 1000000 in
set_option maxRecDepth 100000 in
theorem rdDo1_ok (w0 : World) (p n t : Nat) (D : DevM) (l : K.Cs) (x : RDevAt l p n t D) (i j : Int) (hi : isInt i) (hj : isInt j) :
  K.GC Tryz.prog w0 85 #[K.pa p, K.iv 1, K.iv i, K.iv j] [l] (fun v post => (v = K.iv 0 ∧ (0 ≤ i ∧ i < t) ∧ ∃ l', post = [l'] ∧ RDevAt l' p n t (D.fence i.toNat)) ∨ (v = K.iv 1 ∧ ¬(0 ≤ i ∧ i < t) ∧ post = [l])) := by
 refine K.GC.mk (n := 202) Tryz.func85 rfl rfl [K.pa p, K.iv 1, K.iv i, K.iv j] rfl rfl ?_
 intro fr w hS
 replace hS : K.Sat w0 [l, fr] w := hS
 obtain ⟨g, gk, gs, gw, gf, gz, vs, ka, sa, wa, fa, ck, cs, cw, cf, rfl, hg, ok, os, ow, of, lv, oz, dk⟩ := x
 have dk2 := dk; obtain ⟨lk, ls, lw, lf, lB, n0, n1, t0, t1⟩ := dk2
 replace hS : K.Sat w0 [g, gk, gs, gw, gf, gz, fr] w := hS.of
 refine K.s (K.g (K.q [K.iv 0] (K.z (K.t (K.s (K.s (K.g (K.q [K.iv 1, .bool false, .bool false, K.iv 1, .bool true, .bool true, .bool true, K.iv i] ?_))))))))
 by_cases h_1 : (i : Int) < (0 : Int)
 ·
  refine K.y ((i : Int) < (0 : Int)) h_1 ?_
  refine K.q [.bool true] (K.n_ (K.n_ (K.n_ (K.n_ (K.n_ (K.n_ (K.n_ (K.q [.bool true, .bool true] (K.z (K.t (K.h (K.s (K.g (K.q [K.iv 1] ?_))))))))))))))
  refine K.z (K.t (K.r (K.u ?_)))
  replace hS : K.Sat w0 [[g, gk, gs, gw, gf, gz].flatten, fr] w := (hS.pick [0, 1, 2, 3, 4, 5, 6]).of
  refine ⟨.inr rfl, rfl, (K.iv 1), K.res1 rfl rfl, [[g, gk, gs, gw, gf, gz].flatten], ?_, hS.pick [0, 1]⟩
  exact .inr (⟨rfl, by omega, rfl⟩)
 ·
  refine K.x ((i : Int) < (0 : Int)) h_1 ?_
  refine K.q [.bool false, K.iv i, K.pa p, K.pa p, .pointer (some ⟨p, 3, none⟩)] ?_
  refine K.d (.slice fa t cf) ((hS.blk 0 rfl hg).cell rfl) ?_
  refine K.a (K.QR.len (P := Tryz.prog) rfl rfl Tryz.underlying158) ?_
  by_cases h_2 : (i : Int) ≥ (((t : Nat) : Int) : Int)
  ·
   refine K.y ((i : Int) ≥ (((t : Nat) : Int) : Int)) h_2 ?_
   refine K.q [.bool true, .bool true] (K.z (K.t (K.h (K.s (K.g (K.q [K.iv 1] (K.z (K.t (K.r (K.u ?_))))))))))
   replace hS : K.Sat w0 [[g, gk, gs, gw, gf, gz].flatten, fr] w := (hS.pick [0, 1, 2, 3, 4, 5, 6]).of
   refine ⟨.inr rfl, rfl, (K.iv 1), K.res1 rfl rfl, [[g, gk, gs, gw, gf, gz].flatten], ?_, hS.pick [0, 1]⟩
   exact .inr (⟨rfl, by omega, rfl⟩)
  ·
   refine K.x ((i : Int) ≥ (((t : Nat) : Int) : Int)) h_2 ?_
   refine K.q [.bool false, .bool false] (K.z (K.t (K.f (K.k (K.t (K.s (K.s (K.g (K.q [K.iv 1, .bool false, .bool false, K.iv 1, .bool false, .bool false, .bool false] (K.n_ (K.n_ (K.n_ (K.n_ (K.n_ ?_))))))))))))))
   refine K.n_ (K.n_ (K.n_ (K.n_ (K.n_ (K.n_ (K.q [.bool false] (K.z (K.t (K.f (K.k (K.t (K.s (K.s ?_)))))))))))))
   obtain ⟨b_3, rfl⟩ := ok.some_ (by have := ok.le; omega)
   obtain ⟨b_5, rfl⟩ := os.some_ (by have := os.le; omega)
   obtain ⟨b_7, rfl⟩ := ow.some_ (by have := ow.le; omega)
   obtain ⟨b_9, rfl⟩ := of.some_ (by have := of.le; omega)
   refine K.g (K.q [K.iv 1, .bool false] (K.z (K.t (K.f (K.k (K.t (K.s (K.s (K.g (K.q [K.iv 0] (K.z (K.t ?_))))))))))))
   refine K.KW.block ?_
   refine K.KW.loop (fun m_ F_ w_ => ∃ (q : Nat) (k1 : K.Cs) (w1 : K.Cs), m_ = n - q ∧ K.Sl F_ [(0, K.pa p), (1, K.iv 1), (2, K.iv i), (3, K.iv j), (8, K.iv 0), (9, K.iv ((q : Nat) : Int)), (202, undef)] ∧ q ≤ n ∧ K.OwnG k1 57 1 (some ⟨b_3, 0, none⟩) (n * 8) ck (((backsTo (fun x => (D.flush.getD i.toNat []).getD x false) q D).kept).flatMap cU64) ∧ K.OwnG w1 3 1 (some ⟨b_7, 0, none⟩) n cw (((backsTo (fun x => (D.flush.getD i.toNat []).getD x false) q D).writes).flatMap cI64) ∧ K.Sat w0 [g, k1, gs, w1, gf, gz, fr] w_) ((fun (q : Nat) => n - q) 0) ?_ ?_
   ·
    exact ⟨0, gk, gw, rfl, ⟨by rfl, by rfl, by rfl, by rfl, by rfl, by rfl, by rfl, trivial⟩, (by omega), ok, ow, hS.pick [0, 1, 2, 3, 4, 5, 6]⟩
   ·
    clear hS
    intro m_11 F_12 w hI
    obtain ⟨q, k1, w1, rfl, sl_13, p_14, x_15, x_16, hS⟩ := hI
    rw [← K.Sl.puts sl_13]; clear sl_13
    have hq := backsTo_ok (p := (fun x => (D.flush.getD i.toNat []).getD x false)) dk q (by omega); have hk1 := hq.1; have hw1 := hq.2.2.1
    refine K.s (K.s (K.g (K.q [K.iv ((q : Nat) : Int), K.pa p, K.pa p, .pointer (some ⟨p, 2, none⟩)] ?_)))
    refine K.d (.slice (some ⟨b_7, 0, none⟩) n cw) ((hS.blk 0 rfl hg).cell rfl) ?_
    refine K.a (K.QR.len (P := Tryz.prog) rfl rfl Tryz.underlying44) ?_
    by_cases h_17 : (((q : Nat) : Int) : Int) < (((n : Nat) : Int) : Int)
    ·
     refine K.y ((((q : Nat) : Int) : Int) < (((n : Nat) : Int) : Int)) h_17 ?_
     refine K.z (K.t (K.h (K.k (K.t (K.s ?_)))))
     refine K.KW.block ?_
     refine K.s ?_
     have hBn := lB _ (mem_getD (l := D.flush) (k := i.toNat) [] (by omega))
     obtain ⟨gA, gi, gC, vi, hgz, hvk, hbg, hset⟩ := oz.at [] i.toNat (by omega)
     obtain ⟨ia, ic, rfl, oi⟩ := hbg
     replace hS : K.Sat w0 [g, k1, gs, w1, gf, gA, gi, gC, fr] w := hS.of (by simp [hgz])
     refine K.g (K.q [K.iv 1, .bool true, .bool true, K.pa p, K.pa p, .pointer (some ⟨p, 3, none⟩)] ?_)
     refine K.d (.slice (some ⟨b_9, 0, none⟩) t cf) ((hS.blk 0 rfl hg).cell rfl) ?_
     refine K.q [K.iv i] ?_
     refine K.a (K.QR.ix i.toNat 1 rfl rfl rfl Tryz.underlying158 (by kernel_rfl) (by omega) (by first | (simp; done) | omega | (simp; omega))) ?_
     refine K.d (.slice ia ((D.flush.getD i.toNat []).length) ic) (dv_ld (hS.ownr 4 rfl of) lv hvk) ?_
     refine K.q [K.iv ((q : Nat) : Int)] ?_
     obtain ⟨b_18, rfl⟩ := oi.some_ (by have := oi.le; omega)
     refine K.a (K.QR.ix q 1 rfl rfl rfl Tryz.underlying26 (by kernel_rfl) (by omega) (by first | (simp; done) | omega | (simp; omega))) ?_
     refine K.d (.bool ((D.flush.getD i.toNat []).getD q false)) (K.Own.atS (c := cBool) (d := false) (fun _ => rfl) (hS.ownr 6 rfl oi) rfl q (by omega)) ?_
     cases hb_20 : (D.flush.getD i.toNat []).getD q false
     ·
      refine K.q [.bool false, .bool false, K.iv 1, .bool false, .bool false] (K.n_ (K.n_ (K.n_ (K.q [.bool false, .bool false] (K.z (K.t (K.f (K.k ?_))))))))
      refine K.blk_normal ?_
      refine K.t (K.g (K.q [K.iv ((q : Nat) : Int)] ?_))
      refine K.a (K.QR.n64 ((((q : Nat) : Int) : Int) + (1 : Int)) ((q + 1 : Nat) : Int) (by kernel_rfl) (by omega)) ?_
      refine K.q [K.iv ((q + 1 : Nat) : Int)] (K.z (K.t ?_))
      replace hS : K.Sat w0 [g, k1, gs, w1, gf, gz, fr] w := hS.of (by simp [hgz])
      refine ⟨_, ?_, q + 1, k1, w1, rfl, ⟨by rfl, by rfl, by rfl, by rfl, by rfl, by rfl, by rfl, trivial⟩, (by omega), (by rw [backs_f hb_20]; exact x_15), (by rw [backs_f hb_20]; exact x_16), hS.pick [0, 1, 2, 3, 4, 5, 6]⟩
      omega
     ·
      refine K.q [.bool true, .bool true] (K.n_ (K.n_ (K.n_ (K.n_ (K.n_ (K.n_ (K.n_ (K.q [.bool true] (K.z (K.t (K.h (K.s (K.s (K.g ?_))))))))))))))
      refine K.q [K.iv 0] (K.z (K.t ?_))
      refine K.KW.block ?_
      refine K.KW.loop (fun m_ F_ w_ => ∃ (k : Nat) (k2 : K.Cs), m_ = 8 - k ∧ K.Sl F_ [(0, K.pa p), (1, K.iv 1), (2, K.iv i), (3, K.iv j), (8, K.iv 0), (9, K.iv ((q : Nat) : Int)), (10, K.iv ((k : Nat) : Int)), (202, undef)] ∧ k ≤ 8 ∧ K.OwnG k2 57 1 (some ⟨b_3, 0, none⟩) (n * 8) ck (((copyK (backsTo (fun x => (D.flush.getD i.toNat []).getD x false) q D).kept D.seen q k)).flatMap cU64) ∧ K.Sat w0 [g, k2, gs, w1, gf, gA, gi, gC, fr] w_) ((fun (k : Nat) => 8 - k) 0) ?_ ?_
      ·
       exact ⟨0, k1, rfl, ⟨by rfl, by rfl, by rfl, by rfl, by rfl, by rfl, by rfl, by rfl, trivial⟩, (by omega), (by rw [copyK_zero]; exact x_15), hS.pick [0, 1, 2, 3, 4, 5, 6, 7, 8]⟩
      ·
       clear hS
       intro m_21 F_22 w hI
       obtain ⟨k, k2, rfl, sl_23, p_24, x_25, hS⟩ := hI
       rw [← K.Sl.puts sl_23]; clear sl_23
       have hk2 := copyK_len hk1 ls (n := q) (k := k) (by omega) (by omega)
       refine K.s (K.s (K.g (K.q [K.iv ((k : Nat) : Int)] ?_)))
       by_cases h_26 : (((k : Nat) : Int) : Int) < (8 : Int)
       ·
        refine K.y ((((k : Nat) : Int) : Int) < (8 : Int)) h_26 ?_
        refine K.z (K.t (K.h (K.k (K.t (K.s ?_)))))
        refine K.KW.block ?_
        refine K.KW.gdrawn [0] hS (by kernel_rfl) ?_
        clear hS; intro w hS
        refine K.p 0 rfl (K.pa p) (hS.pick [0]) ?_
        refine K.p 1 rfl (K.pa p) (hS.pick [0]) ?_
        refine K.p 2 rfl (K.pa p) (hS.pick [0]) ?_
        refine K.o_ 3 rfl (.slice (some ⟨b_3, 0, none⟩) (n * 8) ck) (fun w hS => ((hS.blk 0 rfl hg).cell rfl)) (hS.pick [0]) ?_
        refine K.p 4 rfl (K.iv ((q : Nat) : Int)) (hS.pick [0]) ?_
        refine K.m 5 rfl (fun w hS => K.QR.n64 ((8 : Int) * (((q : Nat) : Int) : Int)) ((8 * q : Nat) : Int) (by kernel_rfl) (by omega)) (hS.pick [0]) ?_
        refine K.p 6 rfl (K.iv ((k : Nat) : Int)) (hS.pick [0]) ?_
        refine K.m 7 rfl (fun w hS => K.QR.n64 ((((8 * q : Nat) : Int) : Int) + (((k : Nat) : Int) : Int)) ((8 * q + k : Nat) : Int) (by kernel_rfl) (by omega)) (hS.pick [0]) ?_
        refine K.p 8 rfl (K.pa p) (hS.pick [0]) ?_
        refine K.p 9 rfl (K.pa p) (hS.pick [0]) ?_
        refine K.p 10 rfl (.pointer (some ⟨p, 1, none⟩)) (hS.pick [0]) ?_
        refine K.o_ 11 rfl (.slice (some ⟨b_5, 0, none⟩) (n * 8) cs) (fun w hS => ((hS.blk 0 rfl hg).cell rfl)) (hS.pick [0]) ?_
        refine K.p 12 rfl (K.iv ((q : Nat) : Int)) (hS.pick [0]) ?_
        refine K.m 13 rfl (fun w hS => K.QR.n64 ((8 : Int) * (((q : Nat) : Int) : Int)) ((8 * q : Nat) : Int) (by kernel_rfl) (by omega)) (hS.pick [0]) ?_
        refine K.b 14 rfl (K.iv ((k : Nat) : Int)) (hS.pick [0]) ?_
        refine K.c 15 rfl (K.QR.n64 ((((8 * q : Nat) : Int) : Int) + (((k : Nat) : Int) : Int)) ((8 * q + k : Nat) : Int) (by kernel_rfl) (by omega)) (hS.pick [0]) ?_
        refine K.c 16 rfl (K.QR.ix (8 * q + k) 1 rfl rfl rfl Tryz.underlying78 (by kernel_rfl) (by omega) (by first | (simp; done) | omega | (simp; omega))) (hS.pick [0]) ?_
        refine K.c 17 rfl (K.QR.ld1 (v := .int .u64 (D.seen.getD (8 * q + k) 0)) rfl rfl (by kernel_rfl) (K.Own.atS (c := cU64) (d := 0) (fun _ => rfl) (hS.ownr 2 rfl os) ls (8 * q + k) (by omega))) (hS.pick [0]) ?_
        refine K.c 18 rfl (K.QR.ix (8 * q + k) 1 rfl rfl rfl Tryz.underlying78 (by kernel_rfl) (by omega) (by first | (simp; done) | omega | (simp; omega))) (hS.pick [0]) ?_
        refine K.DW.l 19 rfl (by kernel_rfl) rfl (K.OW.grst 1 (8 * q + k) [.int .u64 (D.seen.getD (8 * q + k) 0)] ((((copyK (backsTo (fun x => (D.flush.getD i.toNat []).getD x false) q D).kept D.seen q k).set (8 * q + k) (D.seen.getD (8 * q + k) 0))).flatMap cU64) hS x_25 ?_ (by show _ + 1 ≤ _; omega) (K.set1 (c := cU64) (copyK (backsTo (fun x => (D.flush.getD i.toNat []).getD x false) q D).kept D.seen q k) (8 * q + k) (D.seen.getD (8 * q + k) 0) (by have := hk2; omega)))
        clear hS; intro w l_27 o_28 hS
        have ln_29 : (((copyK (backsTo (fun x => (D.flush.getD i.toNat []).getD x false) q D).kept D.seen q k).set (8 * q + k) (D.seen.getD (8 * q + k) 0))).length = _ := (List.length_set).trans hk2
        replace hS : K.Sat w0 [g, l_27, gs, w1, gf, gA, gi, gC, fr] w := hS
        refine ⟨.inr (by kernel_rfl), ?_⟩
        refine K.DW.done (by kernel_rfl) ?_
        refine K.blk_normal ?_
        refine K.t (K.g (K.q [K.iv ((k : Nat) : Int)] ?_))
        refine K.a (K.QR.n64 ((((k : Nat) : Int) : Int) + (1 : Int)) ((k + 1 : Nat) : Int) (by kernel_rfl) (by omega)) ?_
        refine K.q [K.iv ((k + 1 : Nat) : Int)] (K.z (K.t ?_))
        refine ⟨_, ?_, k + 1, l_27, rfl, ⟨by rfl, by rfl, by rfl, by rfl, by rfl, by rfl, by rfl, by rfl, trivial⟩, (by omega), (by rw [← copyK_succ hk1 ls (by omega) (by omega)]; exact o_28), hS.pick [0, 1, 2, 3, 4, 5, 6, 7, 8]⟩
        omega
       ·
        refine K.x ((((k : Nat) : Int) : Int) < (8 : Int)) h_26 ?_
        refine K.z (K.t (K.f ?_))
        refine K.KW.exit ?_
        refine K.thn_exit ?_
        refine K.thn_exit ?_
        refine K.blk_hit ?_
        refine K.t ?_
        refine K.KW.gdrawn [0] hS (by kernel_rfl) ?_
        clear hS; intro w hS
        refine K.p 0 rfl (K.pa p) (hS.pick [0]) ?_
        refine K.p 1 rfl (K.pa p) (hS.pick [0]) ?_
        refine K.p 2 rfl (.pointer (some ⟨p, 2, none⟩)) (hS.pick [0]) ?_
        refine K.o_ 3 rfl (.slice (some ⟨b_7, 0, none⟩) n cw) (fun w hS => ((hS.blk 0 rfl hg).cell rfl)) (hS.pick [0]) ?_
        refine K.p 4 rfl (K.iv ((q : Nat) : Int)) (hS.pick [0]) ?_
        refine K.p 5 rfl (K.pa p) (hS.pick [0]) ?_
        refine K.p 6 rfl (K.pa p) (hS.pick [0]) ?_
        refine K.p 7 rfl (.pointer (some ⟨p, 2, none⟩)) (hS.pick [0]) ?_
        refine K.o_ 8 rfl (.slice (some ⟨b_7, 0, none⟩) n cw) (fun w hS => ((hS.blk 0 rfl hg).cell rfl)) (hS.pick [0]) ?_
        refine K.b 9 rfl (K.iv ((q : Nat) : Int)) (hS.pick [0]) ?_
        refine K.c 10 rfl (K.QR.ix q 1 rfl rfl rfl Tryz.underlying44 (by kernel_rfl) (by omega) (by first | (simp; done) | omega | (simp; omega))) (hS.pick [0]) ?_
        refine K.c 11 rfl (K.QR.ld1 (v := K.iv (((backsTo (fun x => (D.flush.getD i.toNat []).getD x false) q D).writes).getD q 0)) rfl rfl (by kernel_rfl) (K.Own.atS (c := cI64) (d := 0) (fun _ => rfl) (hS.ownr 3 rfl x_16) hw1 q (by omega))) (hS.pick [0]) ?_
        refine K.b 12 rfl (K.iv (IntKind.i64.wrap ((((backsTo (fun x => (D.flush.getD i.toNat []).getD x false) q D).writes).getD q 0 : Int) + (1 : Int)))) (hS.pick [0]) ?_
        refine K.c 13 rfl (K.QR.ix q 1 rfl rfl rfl Tryz.underlying44 (by kernel_rfl) (by omega) (by first | (simp; done) | omega | (simp; omega))) (hS.pick [0]) ?_
        refine K.DW.l 14 rfl (by kernel_rfl) rfl (K.OW.grst 3 q [K.iv (IntKind.i64.wrap ((((backsTo (fun x => (D.flush.getD i.toNat []).getD x false) q D).writes).getD q 0 : Int) + (1 : Int)))] (((((backsTo (fun x => (D.flush.getD i.toNat []).getD x false) q D).writes).set q (IntKind.i64.wrap ((((backsTo (fun x => (D.flush.getD i.toNat []).getD x false) q D).writes).getD q 0 : Int) + (1 : Int))))).flatMap cI64) hS x_16 ?_ (by show _ + 1 ≤ _; omega) (K.set1 (c := cI64) ((backsTo (fun x => (D.flush.getD i.toNat []).getD x false) q D).writes) q (IntKind.i64.wrap ((((backsTo (fun x => (D.flush.getD i.toNat []).getD x false) q D).writes).getD q 0 : Int) + (1 : Int))) (by have := hw1; omega)))
        clear hS; intro w l_30 o_31 hS
        have ln_32 : ((((backsTo (fun x => (D.flush.getD i.toNat []).getD x false) q D).writes).set q (IntKind.i64.wrap ((((backsTo (fun x => (D.flush.getD i.toNat []).getD x false) q D).writes).getD q 0 : Int) + (1 : Int))))).length = _ := (List.length_set).trans hw1
        replace hS : K.Sat w0 [g, k2, gs, l_30, gf, gA, gi, gC, fr] w := hS
        refine ⟨.inr (by kernel_rfl), ?_⟩
        refine K.DW.done (by kernel_rfl) ?_
        refine K.blk_normal ?_
        refine K.t (K.g (K.q [K.iv ((q : Nat) : Int)] ?_))
        refine K.a (K.QR.n64 ((((q : Nat) : Int) : Int) + (1 : Int)) ((q + 1 : Nat) : Int) (by kernel_rfl) (by omega)) ?_
        refine K.q [K.iv ((q + 1 : Nat) : Int)] (K.z (K.t ?_))
        obtain rfl : k = 8 := by omega
        replace hS : K.Sat w0 [g, k2, gs, l_30, gf, gz, fr] w := hS.of (by simp [hgz])
        refine ⟨_, ?_, q + 1, k2, l_30, rfl, ⟨by rfl, by rfl, by rfl, by rfl, by rfl, by rfl, by rfl, trivial⟩, (by omega), (by rw [backs_kept hb_20]; exact x_25), (by rw [backs_writes hb_20]; exact o_31), hS.pick [0, 1, 2, 3, 4, 5, 6]⟩
        omega
    ·
     refine K.x ((((q : Nat) : Int) : Int) < (((n : Nat) : Int) : Int)) h_17 ?_
     refine K.z (K.t (K.f ?_))
     refine K.KW.exit ?_
     refine K.thn_exit ?_
     refine K.thn_exit ?_
     refine K.blk_hit ?_
     refine K.t (K.s (K.s (K.g (K.q [K.iv 0] (K.z (K.t ?_))))))
     refine K.KW.block ?_
     refine K.KW.loop (fun m_ F_ w_ => ∃ (r : Nat) (z1 : K.Cs), m_ = t - r ∧ K.Sl F_ [(0, K.pa p), (1, K.iv 1), (2, K.iv i), (3, K.iv j), (8, K.iv 0), (11, K.iv ((r : Nat) : Int)), (202, undef)] ∧ r ≤ t ∧ RowsG BoolG z1 vs (clrTo (fun x => decide ((x : Int) = i)) r D.flush) ∧ K.Sat w0 [g, k1, gs, w1, gf, z1, fr] w_) ((fun (r : Nat) => t - r) 0) ?_ ?_
     ·
      exact ⟨0, gz, rfl, ⟨by rfl, by rfl, by rfl, by rfl, by rfl, by rfl, by rfl, trivial⟩, (by omega), (by rw [clrTo_zero]; exact oz), hS.pick [0, 1, 2, 3, 4, 5, 6]⟩
     ·
      clear hS
      intro m_33 F_34 w hI
      obtain ⟨r, z1, rfl, sl_35, p_36, x_37, hS⟩ := hI
      rw [← K.Sl.puts sl_35]; clear sl_35
      have hBr := fun h : r < t => lB _ (mem_getD (l := D.flush) (k := r) [] (by omega))
      refine K.s (K.s (K.g (K.q [K.iv ((r : Nat) : Int), K.pa p, K.pa p, .pointer (some ⟨p, 3, none⟩)] ?_)))
      refine K.d (.slice (some ⟨b_9, 0, none⟩) t cf) ((hS.blk 0 rfl hg).cell rfl) ?_
      refine K.a (K.QR.len (P := Tryz.prog) rfl rfl Tryz.underlying158) ?_
      by_cases h_38 : (((r : Nat) : Int) : Int) < (((t : Nat) : Int) : Int)
      ·
       refine K.y ((((r : Nat) : Int) : Int) < (((t : Nat) : Int) : Int)) h_38 ?_
       refine K.z (K.t (K.h (K.k (K.t (K.s ?_)))))
       refine K.KW.block ?_
       refine K.s (K.g (K.q [K.iv 0] (K.z (K.t ?_))))
       refine K.KW.block ?_
       refine K.KW.loop (fun m_ F_ w_ => ∃ (m : Nat) (z2 : K.Cs), m_ = n - m ∧ K.Sl F_ [(0, K.pa p), (1, K.iv 1), (2, K.iv i), (3, K.iv j), (8, K.iv 0), (11, K.iv ((r : Nat) : Int)), (12, K.iv ((m : Nat) : Int)), (202, undef)] ∧ m ≤ n ∧ RowsG BoolG z2 vs ((clrTo (fun x => decide ((x : Int) = i)) r D.flush).set r (rowTo ((fun x => decide ((x : Int) = i)) r) m (D.flush.getD r []))) ∧ K.Sat w0 [g, k1, gs, w1, gf, z2, fr] w_) ((fun (m : Nat) => n - m) 0) ?_ ?_
       ·
        exact ⟨0, z1, rfl, ⟨by rfl, by rfl, by rfl, by rfl, by rfl, by rfl, by rfl, by rfl, trivial⟩, (by omega), (by rw [clr_start (by omega)]; exact x_37), hS.pick [0, 1, 2, 3, 4, 5, 6]⟩
       ·
        clear hS
        intro m_39 F_40 w hI
        obtain ⟨m, z2, rfl, sl_41, p_42, x_43, hS⟩ := hI
        rw [← K.Sl.puts sl_41]; clear sl_41
        refine K.s (K.s (K.g (K.q [K.iv ((m : Nat) : Int), K.pa p, K.pa p, .pointer (some ⟨p, 2, none⟩)] ?_)))
        refine K.d (.slice (some ⟨b_7, 0, none⟩) n cw) ((hS.blk 0 rfl hg).cell rfl) ?_
        refine K.a (K.QR.len (P := Tryz.prog) rfl rfl Tryz.underlying44) ?_
        by_cases h_44 : (((m : Nat) : Int) : Int) < (((n : Nat) : Int) : Int)
        ·
         refine K.y ((((m : Nat) : Int) : Int) < (((n : Nat) : Int) : Int)) h_44 ?_
         refine K.z (K.t (K.h (K.k (K.t (K.s ?_)))))
         refine K.KW.block ?_
         refine K.s (K.g (K.q [K.iv 1, .bool true, .bool true, K.iv ((r : Nat) : Int), K.iv i] ?_))
         by_cases h_45 : (((r : Nat) : Int) : Int) = (i : Int)
         ·
          refine K.ye (((r : Nat) : Int) : Int) (i : Int) h_45 ?_
          refine K.q [.bool true, .bool true] (K.n_ (K.n_ (K.n_ (K.n_ (K.n_ (K.n_ (K.q [.bool true] (K.z (K.t (K.h ?_))))))))))
          have hC : (fun x => decide ((x : Int) = i)) r = true := decide_eq_true (by omega)
          have hBn := hBr (by omega); have hlr := rowTo_len (b := (fun x => decide ((x : Int) = i)) r) (m := m) (B := D.flush.getD r []) (by omega)
          obtain ⟨gA, gi, gC, vi, rfl, hvk, hbg, hset⟩ := x_43.at [] r (by rw [List.length_set, clrTo_len]; omega)
          rw [getD_set_self (by rw [clrTo_len]; omega)] at hbg
          obtain ⟨ia, ic, rfl, oi⟩ := hbg
          replace hS : K.Sat w0 [g, k1, gs, w1, gf, gA, gi, gC, fr] w := hS.of
          refine K.g (K.q [K.pa p, K.pa p, .pointer (some ⟨p, 3, none⟩)] ?_)
          refine K.d (.slice (some ⟨b_9, 0, none⟩) t cf) ((hS.blk 0 rfl hg).cell rfl) ?_
          refine K.q [K.iv ((r : Nat) : Int)] ?_
          refine K.a (K.QR.ix r 1 rfl rfl rfl Tryz.underlying158 (by kernel_rfl) (by omega) (by first | (simp; done) | omega | (simp; omega))) ?_
          refine K.d (.slice ia ((rowTo ((fun x => decide ((x : Int) = i)) r) m (D.flush.getD r [])).length) ic) (dv_ld (hS.ownr 4 rfl of) lv hvk) ?_
          refine K.q [K.iv ((m : Nat) : Int)] ?_
          obtain ⟨b_46, rfl⟩ := oi.some_ (by have := oi.le; omega)
          refine K.a (K.QR.ix m 1 rfl rfl rfl Tryz.underlying26 (by kernel_rfl) (by omega) (by first | (simp; done) | omega | (simp; omega))) ?_
          refine K.l (K.OW.grst 6 m [.bool false] ((((rowTo ((fun x => decide ((x : Int) = i)) r) m (D.flush.getD r [])).set m false)).flatMap cBool) hS oi ?_ (by show _ + 1 ≤ _; omega) (K.set1 (c := cBool) (rowTo ((fun x => decide ((x : Int) = i)) r) m (D.flush.getD r [])) m false (by omega)))
          clear hS; intro w l_48 o_49 hS
          have ln_50 : (((rowTo ((fun x => decide ((x : Int) = i)) r) m (D.flush.getD r [])).set m false)).length = _ := (List.length_set).trans rfl
          replace hS : K.Sat w0 [g, k1, gs, w1, gf, gA, l_48, gC, fr] w := hS
          refine K.z ?_
          refine K.blk_normal ?_
          refine K.t (K.g (K.q [K.iv ((m : Nat) : Int)] ?_))
          refine K.a (K.QR.n64 ((((m : Nat) : Int) : Int) + (1 : Int)) ((m + 1 : Nat) : Int) (by kernel_rfl) (by omega)) ?_
          refine K.q [K.iv ((m + 1 : Nat) : Int)] (K.z (K.t ?_))
          replace hS : K.Sat w0 [[gA, l_48, gC].flatten, g, k1, gs, w1, gf, fr] w := (hS.pick [5, 6, 7, 0, 1, 2, 3, 4, 8]).of
          replace hS : K.Sat w0 [g, k1, gs, w1, gf, [gA, l_48, gC].flatten, fr] w := hS.pick [1, 2, 3, 4, 5, 0, 6]
          refine ⟨_, ?_, m + 1, [gA, l_48, gC].flatten, rfl, ⟨by rfl, by rfl, by rfl, by rfl, by rfl, by rfl, by rfl, by rfl, trivial⟩, (by omega), ((hset _ (.slice (some ⟨b_46, 0, none⟩) ((rowTo ((fun x => decide ((x : Int) = i)) r) m (D.flush.getD r [])).length) ic) ((rowTo ((fun x => decide ((x : Int) = i)) r) m (D.flush.getD r [])).set m false) ⟨_, _, by rw [List.length_set], by rw [List.length_set]; exact o_49⟩).same rfl (set_self hvk) (by rw [List.set_set, hC, rowTo_set (by rw [hBr (by omega)]; omega)])), hS.pick [0, 1, 2, 3, 4, 5, 6]⟩
          omega
         ·
          refine K.xe (((r : Nat) : Int) : Int) (i : Int) h_45 ?_
          refine K.q [.bool false, .bool false, K.iv 1, .bool false, .bool false] (K.n_ (K.n_ (K.q [.bool false, .bool false] (K.z (K.t (K.f (K.k ?_)))))))
          refine K.blk_normal ?_
          refine K.t (K.g (K.q [K.iv ((m : Nat) : Int)] ?_))
          refine K.a (K.QR.n64 ((((m : Nat) : Int) : Int) + (1 : Int)) ((m + 1 : Nat) : Int) (by kernel_rfl) (by omega)) ?_
          refine K.q [K.iv ((m + 1 : Nat) : Int)] (K.z (K.t ?_))
          refine ⟨_, ?_, m + 1, z2, rfl, ⟨by rfl, by rfl, by rfl, by rfl, by rfl, by rfl, by rfl, by rfl, trivial⟩, (by omega), (by have hC : (fun x => decide ((x : Int) = i)) r = false := decide_eq_false (by omega); have h := x_43; rw [hC] at h ⊢; exact h), hS.pick [0, 1, 2, 3, 4, 5, 6]⟩
          omega
        ·
         refine K.x ((((m : Nat) : Int) : Int) < (((n : Nat) : Int) : Int)) h_44 ?_
         refine K.z (K.t (K.f ?_))
         refine K.KW.exit ?_
         refine K.thn_exit ?_
         refine K.thn_exit ?_
         refine K.blk_hit ?_
         refine K.blk_normal ?_
         refine K.t (K.g (K.q [K.iv ((r : Nat) : Int)] ?_))
         refine K.a (K.QR.n64 ((((r : Nat) : Int) : Int) + (1 : Int)) ((r + 1 : Nat) : Int) (by kernel_rfl) (by omega)) ?_
         refine K.q [K.iv ((r + 1 : Nat) : Int)] (K.z (K.t ?_))
         obtain rfl : n = m := by omega
         refine ⟨_, ?_, r + 1, z2, rfl, ⟨by rfl, by rfl, by rfl, by rfl, by rfl, by rfl, by rfl, trivial⟩, (by omega), (by rw [← clr_next (by omega) (hBr (by omega))]; exact x_43), hS.pick [0, 1, 2, 3, 4, 5, 6]⟩
         omega
      ·
       refine K.x ((((r : Nat) : Int) : Int) < (((t : Nat) : Int) : Int)) h_38 ?_
       refine K.z (K.t (K.f ?_))
       refine K.KW.exit ?_
       refine K.thn_exit ?_
       refine K.thn_exit ?_
       refine K.blk_hit ?_
       refine K.t (K.s (K.s (K.g (K.q [K.iv 0] (K.z (K.t ?_))))))
       refine K.KW.block ?_
       refine K.KW.loop (fun m_ F_ w_ => ∃ (u : Nat), m_ = n * 8 - u ∧ K.Sl F_ [(0, K.pa p), (1, K.iv 1), (2, K.iv i), (3, K.iv j), (8, K.iv 0), (13, K.iv ((u : Nat) : Int)), (202, undef)] ∧ u ≤ n * 8 ∧ K.Sat w0 [g, k1, gs, w1, gf, z1, fr] w_) ((fun (u : Nat) => n * 8 - u) 0) ?_ ?_
       ·
        exact ⟨0, rfl, ⟨by rfl, by rfl, by rfl, by rfl, by rfl, by rfl, by rfl, trivial⟩, (by omega), hS.pick [0, 1, 2, 3, 4, 5, 6]⟩
       ·
        clear hS
        intro m_51 F_52 w hI
        obtain ⟨u, rfl, sl_53, p_54, hS⟩ := hI
        rw [← K.Sl.puts sl_53]; clear sl_53
        refine K.s (K.s (K.g (K.q [K.iv ((u : Nat) : Int), K.pa p, K.pa p, .pointer (some ⟨p, 1, none⟩)] ?_)))
        refine K.d (.slice (some ⟨b_5, 0, none⟩) (n * 8) cs) ((hS.blk 0 rfl hg).cell rfl) ?_
        refine K.a (K.QR.len (P := Tryz.prog) rfl rfl Tryz.underlying78) ?_
        by_cases h_55 : (((u : Nat) : Int) : Int) < (((n * 8 : Nat) : Int) : Int)
        ·
         refine K.y ((((u : Nat) : Int) : Int) < (((n * 8 : Nat) : Int) : Int)) h_55 ?_
         refine K.z (K.t (K.h (K.k (K.t (K.s ?_)))))
         refine K.KW.block ?_
         refine K.s (K.g (K.q [K.iv 1, .bool false, .bool false] (K.n_ (K.n_ (K.q [.bool false] (K.z (K.t (K.f (K.k ?_)))))))))
         refine K.blk_normal ?_
         refine K.t (K.g (K.q [K.iv ((u : Nat) : Int)] ?_))
         refine K.a (K.QR.n64 ((((u : Nat) : Int) : Int) + (1 : Int)) ((u + 1 : Nat) : Int) (by kernel_rfl) (by omega)) ?_
         refine K.q [K.iv ((u + 1 : Nat) : Int)] (K.z (K.t ?_))
         refine ⟨_, ?_, u + 1, rfl, ⟨by rfl, by rfl, by rfl, by rfl, by rfl, by rfl, by rfl, trivial⟩, (by omega), hS.pick [0, 1, 2, 3, 4, 5, 6]⟩
         omega
        ·
         refine K.x ((((u : Nat) : Int) : Int) < (((n * 8 : Nat) : Int) : Int)) h_55 ?_
         refine K.z (K.t (K.f ?_))
         refine K.KW.exit ?_
         refine K.thn_exit ?_
         refine K.thn_exit ?_
         refine K.blk_hit ?_
         refine K.t (K.s (K.g (K.q [K.iv 0] (K.z (K.t (K.r ?_))))))
         obtain rfl : q = n := by omega
         obtain rfl : r = t := by omega
         have hBi := lB _ (mem_getD (l := D.flush) (k := i.toNat) [] (by omega))
         have hfe : D.fence i.toNat = (backsTo (fun x => (D.flush.getD i.toNat []).getD x false) q D).set i.toNat (List.replicate q false) := by rw [fence_eq, hBi]
         rw [hfe]
         replace hS : K.Sat w0 [[g, k1, gs, w1, gf, z1].flatten, fr] w := (hS.pick [0, 1, 2, 3, 4, 5, 6]).of
         refine ⟨.inr rfl, rfl, (K.iv 0), K.res1 rfl rfl, [[g, k1, gs, w1, gf, z1].flatten], ?_, hS.pick [0, 1]⟩
         exact .inl ⟨rfl, by omega, _, rfl, ⟨_, _, _, _, _, _, _, _, _, _, _, _, _, _, _, rfl, hg, x_15, (by unfold DevM.set; rw [backsTo_seen]; exact os), x_16, of, lv, (by have h := x_37; rw [clr_one lf (by omega), hBi] at h; unfold DevM.set; rw [backsTo_flush]; exact h), (DevM.ok.set (backsTo_ok dk q (Nat.le_refl _)) (by simp))⟩⟩
set_option maxHeartbeats 1000000 in
set_option maxRecDepth 100000 in
theorem rdDo2_ok (w0 : World) (p n t : Nat) (D : DevM) (l : K.Cs) (x : RDevAt l p n t D) (i j : Int) (hi : isInt i) (hj : isInt j) :
  K.GC Tryz.prog w0 85 #[K.pa p, K.iv 2, K.iv i, K.iv j] [l] (fun v post => (v = K.iv 0 ∧ (0 ≤ j ∧ j < n) ∧ ∃ l', post = [l'] ∧ RDevAt l' p n t (D.back j.toNat)) ∨ (v = K.iv 5 ∧ ¬(0 ≤ j ∧ j < n) ∧ post = [l])) := by
 refine K.GC.mk (n := 202) Tryz.func85 rfl rfl [K.pa p, K.iv 2, K.iv i, K.iv j] rfl rfl ?_
 intro fr w hS
 replace hS : K.Sat w0 [l, fr] w := hS
 obtain ⟨g, gk, gs, gw, gf, gz, vs, ka, sa, wa, fa, ck, cs, cw, cf, rfl, hg, ok, os, ow, of, lv, oz, dk⟩ := x
 have dk2 := dk; obtain ⟨lk, ls, lw, lf, lB, n0, n1, t0, t1⟩ := dk2
 replace hS : K.Sat w0 [g, gk, gs, gw, gf, gz, fr] w := hS.of
 refine K.s (K.g (K.q [K.iv 0] (K.z (K.t (K.s (K.s (K.g (K.q [K.iv 2, .bool false, .bool false, K.iv 2, .bool false, .bool false, .bool false] (K.n_ (K.n_ (K.n_ (K.n_ (K.n_ (K.n_ ?_))))))))))))))
 refine K.n_ (K.n_ (K.n_ (K.n_ (K.n_ (K.q [.bool false] (K.z (K.t (K.f (K.k (K.t (K.s (K.s (K.g (K.q [K.iv 2, .bool false, .bool false, K.iv 2, .bool true, .bool true, .bool true, K.iv j] ?_))))))))))))))
 by_cases h_1 : (j : Int) < (0 : Int)
 ·
  refine K.y ((j : Int) < (0 : Int)) h_1 ?_
  refine K.q [.bool true] (K.n_ (K.n_ (K.n_ (K.n_ (K.n_ (K.n_ (K.n_ (K.q [.bool true, .bool true] (K.z (K.t (K.h (K.s (K.g (K.q [K.iv 5] ?_))))))))))))))
  refine K.z (K.t (K.r (K.u ?_)))
  replace hS : K.Sat w0 [[g, gk, gs, gw, gf, gz].flatten, fr] w := (hS.pick [0, 1, 2, 3, 4, 5, 6]).of
  refine ⟨.inr rfl, rfl, (K.iv 5), K.res1 rfl rfl, [[g, gk, gs, gw, gf, gz].flatten], ?_, hS.pick [0, 1]⟩
  exact .inr (⟨rfl, by omega, rfl⟩)
 ·
  refine K.x ((j : Int) < (0 : Int)) h_1 ?_
  refine K.q [.bool false, K.iv j, K.pa p, K.pa p, .pointer (some ⟨p, 2, none⟩)] ?_
  refine K.d (.slice wa n cw) ((hS.blk 0 rfl hg).cell rfl) ?_
  refine K.a (K.QR.len (P := Tryz.prog) rfl rfl Tryz.underlying44) ?_
  by_cases h_2 : (j : Int) ≥ (((n : Nat) : Int) : Int)
  ·
   refine K.y ((j : Int) ≥ (((n : Nat) : Int) : Int)) h_2 ?_
   refine K.q [.bool true, .bool true] (K.z (K.t (K.h (K.s (K.g (K.q [K.iv 5] (K.z (K.t (K.r (K.u ?_))))))))))
   replace hS : K.Sat w0 [[g, gk, gs, gw, gf, gz].flatten, fr] w := (hS.pick [0, 1, 2, 3, 4, 5, 6]).of
   refine ⟨.inr rfl, rfl, (K.iv 5), K.res1 rfl rfl, [[g, gk, gs, gw, gf, gz].flatten], ?_, hS.pick [0, 1]⟩
   exact .inr (⟨rfl, by omega, rfl⟩)
  ·
   refine K.x ((j : Int) ≥ (((n : Nat) : Int) : Int)) h_2 ?_
   refine K.q [.bool false, .bool false] (K.z (K.t (K.f (K.k (K.t (K.s (K.s ?_)))))))
   obtain ⟨b_3, rfl⟩ := ok.some_ (by have := ok.le; omega)
   obtain ⟨b_5, rfl⟩ := os.some_ (by have := os.le; omega)
   obtain ⟨b_7, rfl⟩ := ow.some_ (by have := ow.le; omega)
   obtain ⟨b_9, rfl⟩ := of.some_ (by have := of.le; omega)
   refine K.g (K.q [K.iv 2, .bool false] (K.z (K.t (K.f (K.k (K.t (K.s (K.s (K.g (K.q [K.iv 0] (K.z (K.t ?_))))))))))))
   refine K.KW.block ?_
   refine K.KW.loop (fun m_ F_ w_ => ∃ (q : Nat) (k1 : K.Cs) (w1 : K.Cs), m_ = n - q ∧ K.Sl F_ [(0, K.pa p), (1, K.iv 2), (2, K.iv i), (3, K.iv j), (8, K.iv 0), (9, K.iv ((q : Nat) : Int)), (202, undef)] ∧ q ≤ n ∧ K.OwnG k1 57 1 (some ⟨b_3, 0, none⟩) (n * 8) ck (((backsTo (fun x => decide ((x : Int) = j)) q D).kept).flatMap cU64) ∧ K.OwnG w1 3 1 (some ⟨b_7, 0, none⟩) n cw (((backsTo (fun x => decide ((x : Int) = j)) q D).writes).flatMap cI64) ∧ K.Sat w0 [g, k1, gs, w1, gf, gz, fr] w_) ((fun (q : Nat) => n - q) 0) ?_ ?_
   ·
    exact ⟨0, gk, gw, rfl, ⟨by rfl, by rfl, by rfl, by rfl, by rfl, by rfl, by rfl, trivial⟩, (by omega), ok, ow, hS.pick [0, 1, 2, 3, 4, 5, 6]⟩
   ·
    clear hS
    intro m_11 F_12 w hI
    obtain ⟨q, k1, w1, rfl, sl_13, p_14, x_15, x_16, hS⟩ := hI
    rw [← K.Sl.puts sl_13]; clear sl_13
    have hq := backsTo_ok (p := (fun x => decide ((x : Int) = j))) dk q (by omega); have hk1 := hq.1; have hw1 := hq.2.2.1
    refine K.s (K.s (K.g (K.q [K.iv ((q : Nat) : Int), K.pa p, K.pa p, .pointer (some ⟨p, 2, none⟩)] ?_)))
    refine K.d (.slice (some ⟨b_7, 0, none⟩) n cw) ((hS.blk 0 rfl hg).cell rfl) ?_
    refine K.a (K.QR.len (P := Tryz.prog) rfl rfl Tryz.underlying44) ?_
    by_cases h_17 : (((q : Nat) : Int) : Int) < (((n : Nat) : Int) : Int)
    ·
     refine K.y ((((q : Nat) : Int) : Int) < (((n : Nat) : Int) : Int)) h_17 ?_
     refine K.z (K.t (K.h (K.k (K.t (K.s ?_)))))
     refine K.KW.block ?_
     refine K.s (K.g (K.q [K.iv 2, .bool false, .bool false] (K.n_ (K.n_ (K.n_ (K.n_ (K.n_ (K.n_ (K.n_ (K.n_ (K.n_ (K.n_ (K.q [.bool false, .bool false, K.iv 2, .bool true, .bool true, K.iv ((q : Nat) : Int), K.iv j] ?_)))))))))))))
     by_cases h_18 : (((q : Nat) : Int) : Int) = (j : Int)
     ·
      refine K.ye (((q : Nat) : Int) : Int) (j : Int) h_18 ?_
      refine K.q [.bool true, .bool true] (K.z (K.t (K.h (K.s (K.s (K.g (K.q [K.iv 0] (K.z (K.t ?_)))))))))
      refine K.KW.block ?_
      refine K.KW.loop (fun m_ F_ w_ => ∃ (k : Nat) (k2 : K.Cs), m_ = 8 - k ∧ K.Sl F_ [(0, K.pa p), (1, K.iv 2), (2, K.iv i), (3, K.iv j), (8, K.iv 0), (9, K.iv ((q : Nat) : Int)), (10, K.iv ((k : Nat) : Int)), (202, undef)] ∧ k ≤ 8 ∧ K.OwnG k2 57 1 (some ⟨b_3, 0, none⟩) (n * 8) ck (((copyK (backsTo (fun x => decide ((x : Int) = j)) q D).kept D.seen q k)).flatMap cU64) ∧ K.Sat w0 [g, k2, gs, w1, gf, gz, fr] w_) ((fun (k : Nat) => 8 - k) 0) ?_ ?_
      ·
       exact ⟨0, k1, rfl, ⟨by rfl, by rfl, by rfl, by rfl, by rfl, by rfl, by rfl, by rfl, trivial⟩, (by omega), (by rw [copyK_zero]; exact x_15), hS.pick [0, 1, 2, 3, 4, 5, 6]⟩
      ·
       clear hS
       intro m_19 F_20 w hI
       obtain ⟨k, k2, rfl, sl_21, p_22, x_23, hS⟩ := hI
       rw [← K.Sl.puts sl_21]; clear sl_21
       have hk2 := copyK_len hk1 ls (n := q) (k := k) (by omega) (by omega)
       refine K.s (K.s (K.g (K.q [K.iv ((k : Nat) : Int)] ?_)))
       by_cases h_24 : (((k : Nat) : Int) : Int) < (8 : Int)
       ·
        refine K.y ((((k : Nat) : Int) : Int) < (8 : Int)) h_24 ?_
        refine K.z (K.t (K.h (K.k (K.t (K.s ?_)))))
        refine K.KW.block ?_
        refine K.KW.gdrawn [0] hS (by kernel_rfl) ?_
        clear hS; intro w hS
        refine K.p 0 rfl (K.pa p) (hS.pick [0]) ?_
        refine K.p 1 rfl (K.pa p) (hS.pick [0]) ?_
        refine K.p 2 rfl (K.pa p) (hS.pick [0]) ?_
        refine K.o_ 3 rfl (.slice (some ⟨b_3, 0, none⟩) (n * 8) ck) (fun w hS => ((hS.blk 0 rfl hg).cell rfl)) (hS.pick [0]) ?_
        refine K.p 4 rfl (K.iv ((q : Nat) : Int)) (hS.pick [0]) ?_
        refine K.m 5 rfl (fun w hS => K.QR.n64 ((8 : Int) * (((q : Nat) : Int) : Int)) ((8 * q : Nat) : Int) (by kernel_rfl) (by omega)) (hS.pick [0]) ?_
        refine K.p 6 rfl (K.iv ((k : Nat) : Int)) (hS.pick [0]) ?_
        refine K.m 7 rfl (fun w hS => K.QR.n64 ((((8 * q : Nat) : Int) : Int) + (((k : Nat) : Int) : Int)) ((8 * q + k : Nat) : Int) (by kernel_rfl) (by omega)) (hS.pick [0]) ?_
        refine K.p 8 rfl (K.pa p) (hS.pick [0]) ?_
        refine K.p 9 rfl (K.pa p) (hS.pick [0]) ?_
        refine K.p 10 rfl (.pointer (some ⟨p, 1, none⟩)) (hS.pick [0]) ?_
        refine K.o_ 11 rfl (.slice (some ⟨b_5, 0, none⟩) (n * 8) cs) (fun w hS => ((hS.blk 0 rfl hg).cell rfl)) (hS.pick [0]) ?_
        refine K.p 12 rfl (K.iv ((q : Nat) : Int)) (hS.pick [0]) ?_
        refine K.m 13 rfl (fun w hS => K.QR.n64 ((8 : Int) * (((q : Nat) : Int) : Int)) ((8 * q : Nat) : Int) (by kernel_rfl) (by omega)) (hS.pick [0]) ?_
        refine K.b 14 rfl (K.iv ((k : Nat) : Int)) (hS.pick [0]) ?_
        refine K.c 15 rfl (K.QR.n64 ((((8 * q : Nat) : Int) : Int) + (((k : Nat) : Int) : Int)) ((8 * q + k : Nat) : Int) (by kernel_rfl) (by omega)) (hS.pick [0]) ?_
        refine K.c 16 rfl (K.QR.ix (8 * q + k) 1 rfl rfl rfl Tryz.underlying78 (by kernel_rfl) (by omega) (by first | (simp; done) | omega | (simp; omega))) (hS.pick [0]) ?_
        refine K.c 17 rfl (K.QR.ld1 (v := .int .u64 (D.seen.getD (8 * q + k) 0)) rfl rfl (by kernel_rfl) (K.Own.atS (c := cU64) (d := 0) (fun _ => rfl) (hS.ownr 2 rfl os) ls (8 * q + k) (by omega))) (hS.pick [0]) ?_
        refine K.c 18 rfl (K.QR.ix (8 * q + k) 1 rfl rfl rfl Tryz.underlying78 (by kernel_rfl) (by omega) (by first | (simp; done) | omega | (simp; omega))) (hS.pick [0]) ?_
        refine K.DW.l 19 rfl (by kernel_rfl) rfl (K.OW.grst 1 (8 * q + k) [.int .u64 (D.seen.getD (8 * q + k) 0)] ((((copyK (backsTo (fun x => decide ((x : Int) = j)) q D).kept D.seen q k).set (8 * q + k) (D.seen.getD (8 * q + k) 0))).flatMap cU64) hS x_23 ?_ (by show _ + 1 ≤ _; omega) (K.set1 (c := cU64) (copyK (backsTo (fun x => decide ((x : Int) = j)) q D).kept D.seen q k) (8 * q + k) (D.seen.getD (8 * q + k) 0) (by have := hk2; omega)))
        clear hS; intro w l_25 o_26 hS
        have ln_27 : (((copyK (backsTo (fun x => decide ((x : Int) = j)) q D).kept D.seen q k).set (8 * q + k) (D.seen.getD (8 * q + k) 0))).length = _ := (List.length_set).trans hk2
        replace hS : K.Sat w0 [g, l_25, gs, w1, gf, gz, fr] w := hS
        refine ⟨.inr (by kernel_rfl), ?_⟩
        refine K.DW.done (by kernel_rfl) ?_
        refine K.blk_normal ?_
        refine K.t (K.g (K.q [K.iv ((k : Nat) : Int)] ?_))
        refine K.a (K.QR.n64 ((((k : Nat) : Int) : Int) + (1 : Int)) ((k + 1 : Nat) : Int) (by kernel_rfl) (by omega)) ?_
        refine K.q [K.iv ((k + 1 : Nat) : Int)] (K.z (K.t ?_))
        refine ⟨_, ?_, k + 1, l_25, rfl, ⟨by rfl, by rfl, by rfl, by rfl, by rfl, by rfl, by rfl, by rfl, trivial⟩, (by omega), (by rw [← copyK_succ hk1 ls (by omega) (by omega)]; exact o_26), hS.pick [0, 1, 2, 3, 4, 5, 6]⟩
        omega
       ·
        refine K.x ((((k : Nat) : Int) : Int) < (8 : Int)) h_24 ?_
        refine K.z (K.t (K.f ?_))
        refine K.KW.exit ?_
        refine K.thn_exit ?_
        refine K.thn_exit ?_
        refine K.blk_hit ?_
        refine K.t ?_
        refine K.KW.gdrawn [0] hS (by kernel_rfl) ?_
        clear hS; intro w hS
        refine K.p 0 rfl (K.pa p) (hS.pick [0]) ?_
        refine K.p 1 rfl (K.pa p) (hS.pick [0]) ?_
        refine K.p 2 rfl (.pointer (some ⟨p, 2, none⟩)) (hS.pick [0]) ?_
        refine K.o_ 3 rfl (.slice (some ⟨b_7, 0, none⟩) n cw) (fun w hS => ((hS.blk 0 rfl hg).cell rfl)) (hS.pick [0]) ?_
        refine K.p 4 rfl (K.iv ((q : Nat) : Int)) (hS.pick [0]) ?_
        refine K.p 5 rfl (K.pa p) (hS.pick [0]) ?_
        refine K.p 6 rfl (K.pa p) (hS.pick [0]) ?_
        refine K.p 7 rfl (.pointer (some ⟨p, 2, none⟩)) (hS.pick [0]) ?_
        refine K.o_ 8 rfl (.slice (some ⟨b_7, 0, none⟩) n cw) (fun w hS => ((hS.blk 0 rfl hg).cell rfl)) (hS.pick [0]) ?_
        refine K.b 9 rfl (K.iv ((q : Nat) : Int)) (hS.pick [0]) ?_
        refine K.c 10 rfl (K.QR.ix q 1 rfl rfl rfl Tryz.underlying44 (by kernel_rfl) (by omega) (by first | (simp; done) | omega | (simp; omega))) (hS.pick [0]) ?_
        refine K.c 11 rfl (K.QR.ld1 (v := K.iv (((backsTo (fun x => decide ((x : Int) = j)) q D).writes).getD q 0)) rfl rfl (by kernel_rfl) (K.Own.atS (c := cI64) (d := 0) (fun _ => rfl) (hS.ownr 3 rfl x_16) hw1 q (by omega))) (hS.pick [0]) ?_
        refine K.b 12 rfl (K.iv (IntKind.i64.wrap ((((backsTo (fun x => decide ((x : Int) = j)) q D).writes).getD q 0 : Int) + (1 : Int)))) (hS.pick [0]) ?_
        refine K.c 13 rfl (K.QR.ix q 1 rfl rfl rfl Tryz.underlying44 (by kernel_rfl) (by omega) (by first | (simp; done) | omega | (simp; omega))) (hS.pick [0]) ?_
        refine K.DW.l 14 rfl (by kernel_rfl) rfl (K.OW.grst 3 q [K.iv (IntKind.i64.wrap ((((backsTo (fun x => decide ((x : Int) = j)) q D).writes).getD q 0 : Int) + (1 : Int)))] (((((backsTo (fun x => decide ((x : Int) = j)) q D).writes).set q (IntKind.i64.wrap ((((backsTo (fun x => decide ((x : Int) = j)) q D).writes).getD q 0 : Int) + (1 : Int))))).flatMap cI64) hS x_16 ?_ (by show _ + 1 ≤ _; omega) (K.set1 (c := cI64) ((backsTo (fun x => decide ((x : Int) = j)) q D).writes) q (IntKind.i64.wrap ((((backsTo (fun x => decide ((x : Int) = j)) q D).writes).getD q 0 : Int) + (1 : Int))) (by have := hw1; omega)))
        clear hS; intro w l_28 o_29 hS
        have ln_30 : ((((backsTo (fun x => decide ((x : Int) = j)) q D).writes).set q (IntKind.i64.wrap ((((backsTo (fun x => decide ((x : Int) = j)) q D).writes).getD q 0 : Int) + (1 : Int))))).length = _ := (List.length_set).trans hw1
        replace hS : K.Sat w0 [g, k2, gs, l_28, gf, gz, fr] w := hS
        refine ⟨.inr (by kernel_rfl), ?_⟩
        refine K.DW.done (by kernel_rfl) ?_
        refine K.blk_normal ?_
        refine K.t (K.g (K.q [K.iv ((q : Nat) : Int)] ?_))
        refine K.a (K.QR.n64 ((((q : Nat) : Int) : Int) + (1 : Int)) ((q + 1 : Nat) : Int) (by kernel_rfl) (by omega)) ?_
        refine K.q [K.iv ((q + 1 : Nat) : Int)] (K.z (K.t ?_))
        obtain rfl : k = 8 := by omega
        refine ⟨_, ?_, q + 1, k2, l_28, rfl, ⟨by rfl, by rfl, by rfl, by rfl, by rfl, by rfl, by rfl, trivial⟩, (by omega), (by rw [backs_kept (decide_eq_true (by omega))]; exact x_23), (by rw [backs_writes (decide_eq_true (by omega))]; exact o_29), hS.pick [0, 1, 2, 3, 4, 5, 6]⟩
        omega
     ·
      refine K.xe (((q : Nat) : Int) : Int) (j : Int) h_18 ?_
      refine K.q [.bool false, .bool false] (K.z (K.t (K.f (K.k ?_))))
      refine K.blk_normal ?_
      refine K.t (K.g (K.q [K.iv ((q : Nat) : Int)] ?_))
      refine K.a (K.QR.n64 ((((q : Nat) : Int) : Int) + (1 : Int)) ((q + 1 : Nat) : Int) (by kernel_rfl) (by omega)) ?_
      refine K.q [K.iv ((q + 1 : Nat) : Int)] (K.z (K.t ?_))
      refine ⟨_, ?_, q + 1, k1, w1, rfl, ⟨by rfl, by rfl, by rfl, by rfl, by rfl, by rfl, by rfl, trivial⟩, (by omega), (by rw [backs_f (decide_eq_false (by omega))]; exact x_15), (by rw [backs_f (decide_eq_false (by omega))]; exact x_16), hS.pick [0, 1, 2, 3, 4, 5, 6]⟩
      omega
    ·
     refine K.x ((((q : Nat) : Int) : Int) < (((n : Nat) : Int) : Int)) h_17 ?_
     refine K.z (K.t (K.f ?_))
     refine K.KW.exit ?_
     refine K.thn_exit ?_
     refine K.thn_exit ?_
     refine K.blk_hit ?_
     refine K.t (K.s (K.s (K.g (K.q [K.iv 0] (K.z (K.t ?_))))))
     refine K.KW.block ?_
     refine K.KW.loop (fun m_ F_ w_ => ∃ (r : Nat), m_ = t - r ∧ K.Sl F_ [(0, K.pa p), (1, K.iv 2), (2, K.iv i), (3, K.iv j), (8, K.iv 0), (11, K.iv ((r : Nat) : Int)), (202, undef)] ∧ r ≤ t ∧ K.Sat w0 [g, k1, gs, w1, gf, gz, fr] w_) ((fun (r : Nat) => t - r) 0) ?_ ?_
     ·
      exact ⟨0, rfl, ⟨by rfl, by rfl, by rfl, by rfl, by rfl, by rfl, by rfl, trivial⟩, (by omega), hS.pick [0, 1, 2, 3, 4, 5, 6]⟩
     ·
      clear hS
      intro m_31 F_32 w hI
      obtain ⟨r, rfl, sl_33, p_34, hS⟩ := hI
      rw [← K.Sl.puts sl_33]; clear sl_33
      refine K.s (K.s (K.g (K.q [K.iv ((r : Nat) : Int), K.pa p, K.pa p, .pointer (some ⟨p, 3, none⟩)] ?_)))
      refine K.d (.slice (some ⟨b_9, 0, none⟩) t cf) ((hS.blk 0 rfl hg).cell rfl) ?_
      refine K.a (K.QR.len (P := Tryz.prog) rfl rfl Tryz.underlying158) ?_
      by_cases h_35 : (((r : Nat) : Int) : Int) < (((t : Nat) : Int) : Int)
      ·
       refine K.y ((((r : Nat) : Int) : Int) < (((t : Nat) : Int) : Int)) h_35 ?_
       refine K.z (K.t (K.h (K.k (K.t (K.s ?_)))))
       refine K.KW.block ?_
       refine K.s (K.g (K.q [K.iv 0] (K.z (K.t ?_))))
       refine K.KW.block ?_
       refine K.KW.loop (fun m_ F_ w_ => ∃ (m : Nat), m_ = n - m ∧ K.Sl F_ [(0, K.pa p), (1, K.iv 2), (2, K.iv i), (3, K.iv j), (8, K.iv 0), (11, K.iv ((r : Nat) : Int)), (12, K.iv ((m : Nat) : Int)), (202, undef)] ∧ m ≤ n ∧ K.Sat w0 [g, k1, gs, w1, gf, gz, fr] w_) ((fun (m : Nat) => n - m) 0) ?_ ?_
       ·
        exact ⟨0, rfl, ⟨by rfl, by rfl, by rfl, by rfl, by rfl, by rfl, by rfl, by rfl, trivial⟩, (by omega), hS.pick [0, 1, 2, 3, 4, 5, 6]⟩
       ·
        clear hS
        intro m_36 F_37 w hI
        obtain ⟨m, rfl, sl_38, p_39, hS⟩ := hI
        rw [← K.Sl.puts sl_38]; clear sl_38
        refine K.s (K.s (K.g (K.q [K.iv ((m : Nat) : Int), K.pa p, K.pa p, .pointer (some ⟨p, 2, none⟩)] ?_)))
        refine K.d (.slice (some ⟨b_7, 0, none⟩) n cw) ((hS.blk 0 rfl hg).cell rfl) ?_
        refine K.a (K.QR.len (P := Tryz.prog) rfl rfl Tryz.underlying44) ?_
        by_cases h_40 : (((m : Nat) : Int) : Int) < (((n : Nat) : Int) : Int)
        ·
         refine K.y ((((m : Nat) : Int) : Int) < (((n : Nat) : Int) : Int)) h_40 ?_
         refine K.z (K.t (K.h (K.k (K.t (K.s ?_)))))
         refine K.KW.block ?_
         refine K.s (K.g (K.q [K.iv 2, .bool false, .bool false] (K.n_ (K.n_ (K.n_ (K.q [.bool false, .bool false, K.iv 2, .bool true, .bool true, K.iv 2, .bool false, .bool false, .bool false] (K.z (K.t (K.f (K.k ?_))))))))))
         refine K.blk_normal ?_
         refine K.t (K.g (K.q [K.iv ((m : Nat) : Int)] ?_))
         refine K.a (K.QR.n64 ((((m : Nat) : Int) : Int) + (1 : Int)) ((m + 1 : Nat) : Int) (by kernel_rfl) (by omega)) ?_
         refine K.q [K.iv ((m + 1 : Nat) : Int)] (K.z (K.t ?_))
         refine ⟨_, ?_, m + 1, rfl, ⟨by rfl, by rfl, by rfl, by rfl, by rfl, by rfl, by rfl, by rfl, trivial⟩, (by omega), hS.pick [0, 1, 2, 3, 4, 5, 6]⟩
         omega
        ·
         refine K.x ((((m : Nat) : Int) : Int) < (((n : Nat) : Int) : Int)) h_40 ?_
         refine K.z (K.t (K.f ?_))
         refine K.KW.exit ?_
         refine K.thn_exit ?_
         refine K.thn_exit ?_
         refine K.blk_hit ?_
         refine K.blk_normal ?_
         refine K.t (K.g (K.q [K.iv ((r : Nat) : Int)] ?_))
         refine K.a (K.QR.n64 ((((r : Nat) : Int) : Int) + (1 : Int)) ((r + 1 : Nat) : Int) (by kernel_rfl) (by omega)) ?_
         refine K.q [K.iv ((r + 1 : Nat) : Int)] (K.z (K.t ?_))
         refine ⟨_, ?_, r + 1, rfl, ⟨by rfl, by rfl, by rfl, by rfl, by rfl, by rfl, by rfl, trivial⟩, (by omega), hS.pick [0, 1, 2, 3, 4, 5, 6]⟩
         omega
      ·
       refine K.x ((((r : Nat) : Int) : Int) < (((t : Nat) : Int) : Int)) h_35 ?_
       refine K.z (K.t (K.f ?_))
       refine K.KW.exit ?_
       refine K.thn_exit ?_
       refine K.thn_exit ?_
       refine K.blk_hit ?_
       refine K.t (K.s (K.s (K.g (K.q [K.iv 0] (K.z (K.t ?_))))))
       refine K.KW.block ?_
       refine K.KW.loop (fun m_ F_ w_ => ∃ (u : Nat), m_ = n * 8 - u ∧ K.Sl F_ [(0, K.pa p), (1, K.iv 2), (2, K.iv i), (3, K.iv j), (8, K.iv 0), (13, K.iv ((u : Nat) : Int)), (202, undef)] ∧ u ≤ n * 8 ∧ K.Sat w0 [g, k1, gs, w1, gf, gz, fr] w_) ((fun (u : Nat) => n * 8 - u) 0) ?_ ?_
       ·
        exact ⟨0, rfl, ⟨by rfl, by rfl, by rfl, by rfl, by rfl, by rfl, by rfl, trivial⟩, (by omega), hS.pick [0, 1, 2, 3, 4, 5, 6]⟩
       ·
        clear hS
        intro m_41 F_42 w hI
        obtain ⟨u, rfl, sl_43, p_44, hS⟩ := hI
        rw [← K.Sl.puts sl_43]; clear sl_43
        refine K.s (K.s (K.g (K.q [K.iv ((u : Nat) : Int), K.pa p, K.pa p, .pointer (some ⟨p, 1, none⟩)] ?_)))
        refine K.d (.slice (some ⟨b_5, 0, none⟩) (n * 8) cs) ((hS.blk 0 rfl hg).cell rfl) ?_
        refine K.a (K.QR.len (P := Tryz.prog) rfl rfl Tryz.underlying78) ?_
        by_cases h_45 : (((u : Nat) : Int) : Int) < (((n * 8 : Nat) : Int) : Int)
        ·
         refine K.y ((((u : Nat) : Int) : Int) < (((n * 8 : Nat) : Int) : Int)) h_45 ?_
         refine K.z (K.t (K.h (K.k (K.t (K.s ?_)))))
         refine K.KW.block ?_
         refine K.s (K.g (K.q [K.iv 2, .bool true, .bool true, K.iv 2, .bool false, .bool false] (K.z (K.t (K.f (K.k ?_))))))
         refine K.blk_normal ?_
         refine K.t (K.g (K.q [K.iv ((u : Nat) : Int)] ?_))
         refine K.a (K.QR.n64 ((((u : Nat) : Int) : Int) + (1 : Int)) ((u + 1 : Nat) : Int) (by kernel_rfl) (by omega)) ?_
         refine K.q [K.iv ((u + 1 : Nat) : Int)] (K.z (K.t ?_))
         refine ⟨_, ?_, u + 1, rfl, ⟨by rfl, by rfl, by rfl, by rfl, by rfl, by rfl, by rfl, trivial⟩, (by omega), hS.pick [0, 1, 2, 3, 4, 5, 6]⟩
         omega
        ·
         refine K.x ((((u : Nat) : Int) : Int) < (((n * 8 : Nat) : Int) : Int)) h_45 ?_
         refine K.z (K.t (K.f ?_))
         refine K.KW.exit ?_
         refine K.thn_exit ?_
         refine K.thn_exit ?_
         refine K.blk_hit ?_
         refine K.t (K.s (K.g (K.q [K.iv 0] (K.z (K.t (K.r ?_))))))
         obtain rfl : q = n := by omega
         rw [← backs_one (n := q) (by omega)]
         replace hS : K.Sat w0 [[g, k1, gs, w1, gf, gz].flatten, fr] w := (hS.pick [0, 1, 2, 3, 4, 5, 6]).of
         refine ⟨.inr rfl, rfl, (K.iv 0), K.res1 rfl rfl, [[g, k1, gs, w1, gf, gz].flatten], ?_, hS.pick [0, 1]⟩
         exact .inl ⟨rfl, by omega, _, rfl, ⟨_, _, _, _, _, _, _, _, _, _, _, _, _, _, _, rfl, hg, x_15, (by rw [backsTo_seen]; exact os), x_16, of, lv, (by rw [backsTo_flush]; exact oz), (backsTo_ok dk q (Nat.le_refl _))⟩⟩
set_option maxHeartbeats 1000000 in
set_option maxRecDepth 100000 in
theorem rdDo3_ok (w0 : World) (p n t : Nat) (D : DevM) (l : K.Cs) (x : RDevAt l p n t D) (i j : Int) (hi : isInt i) (hj : isInt j) :
  K.GC Tryz.prog w0 85 #[K.pa p, K.iv 3, K.iv i, K.iv j] [l] (fun v post => (v = K.iv 0 ∧ ∃ l', post = [l'] ∧ RDevAt l' p n t (D.crash))) := by
 refine K.GC.mk (n := 202) Tryz.func85 rfl rfl [K.pa p, K.iv 3, K.iv i, K.iv j] rfl rfl ?_
 intro fr w hS
 replace hS : K.Sat w0 [l, fr] w := hS
 obtain ⟨g, gk, gs, gw, gf, gz, vs, ka, sa, wa, fa, ck, cs, cw, cf, rfl, hg, ok, os, ow, of, lv, oz, dk⟩ := x
 have dk2 := dk; obtain ⟨lk, ls, lw, lf, lB, n0, n1, t0, t1⟩ := dk2
 replace hS : K.Sat w0 [g, gk, gs, gw, gf, gz, fr] w := hS.of
 refine K.s (K.g (K.q [K.iv 0] (K.z (K.t (K.s (K.s (K.g (K.q [K.iv 3, .bool false, .bool false, K.iv 3, .bool false, .bool false, .bool false] (K.n_ (K.n_ (K.n_ (K.n_ (K.n_ (K.n_ ?_))))))))))))))
 refine K.n_ (K.n_ (K.n_ (K.n_ (K.n_ (K.q [.bool false] (K.z (K.t (K.f (K.k (K.t (K.s (K.s (K.g (K.q [K.iv 3, .bool false, .bool false, K.iv 3, .bool false, .bool false, .bool false] ?_))))))))))))))
 refine K.n_ (K.n_ (K.n_ (K.n_ (K.n_ (K.n_ (K.n_ (K.n_ (K.n_ (K.n_ (K.n_ (K.q [.bool false] (K.z (K.t (K.f ?_))))))))))))))
 refine K.k (K.t (K.s (K.s ?_)))
 obtain ⟨b_1, rfl⟩ := ok.some_ (by have := ok.le; omega)
 obtain ⟨b_3, rfl⟩ := os.some_ (by have := os.le; omega)
 obtain ⟨b_5, rfl⟩ := ow.some_ (by have := ow.le; omega)
 obtain ⟨b_7, rfl⟩ := of.some_ (by have := of.le; omega)
 refine K.g (K.q [K.iv 3, .bool false] (K.z (K.t (K.f (K.k (K.t (K.s (K.s (K.g (K.q [K.iv 0] (K.z (K.t ?_))))))))))))
 refine K.KW.block ?_
 refine K.KW.loop (fun m_ F_ w_ => ∃ (q : Nat), m_ = n - q ∧ K.Sl F_ [(0, K.pa p), (1, K.iv 3), (2, K.iv i), (3, K.iv j), (8, K.iv 0), (9, K.iv ((q : Nat) : Int)), (202, undef)] ∧ q ≤ n ∧ K.Sat w0 [g, gk, gs, gw, gf, gz, fr] w_) ((fun (q : Nat) => n - q) 0) ?_ ?_
 ·
  exact ⟨0, rfl, ⟨by rfl, by rfl, by rfl, by rfl, by rfl, by rfl, by rfl, trivial⟩, (by omega), hS.pick [0, 1, 2, 3, 4, 5, 6]⟩
 ·
  clear hS
  intro m_9 F_10 w hI
  obtain ⟨q, rfl, sl_11, p_12, hS⟩ := hI
  rw [← K.Sl.puts sl_11]; clear sl_11
  refine K.s (K.s (K.g (K.q [K.iv ((q : Nat) : Int), K.pa p, K.pa p, .pointer (some ⟨p, 2, none⟩)] ?_)))
  refine K.d (.slice (some ⟨b_5, 0, none⟩) n cw) ((hS.blk 0 rfl hg).cell rfl) ?_
  refine K.a (K.QR.len (P := Tryz.prog) rfl rfl Tryz.underlying44) ?_
  by_cases h_13 : (((q : Nat) : Int) : Int) < (((n : Nat) : Int) : Int)
  ·
   refine K.y ((((q : Nat) : Int) : Int) < (((n : Nat) : Int) : Int)) h_13 ?_
   refine K.z (K.t (K.h (K.k (K.t (K.s ?_)))))
   refine K.KW.block ?_
   refine K.s (K.g (K.q [K.iv 3, .bool false, .bool false] (K.n_ (K.n_ (K.n_ (K.n_ (K.n_ (K.n_ (K.n_ (K.n_ (K.n_ (K.n_ (K.q [.bool false, .bool false, K.iv 3, .bool false, .bool false] (K.n_ ?_))))))))))))))
   refine K.n_ (K.n_ (K.q [.bool false, .bool false] (K.z (K.t (K.f (K.k ?_))))))
   refine K.blk_normal ?_
   refine K.t (K.g (K.q [K.iv ((q : Nat) : Int)] ?_))
   refine K.a (K.QR.n64 ((((q : Nat) : Int) : Int) + (1 : Int)) ((q + 1 : Nat) : Int) (by kernel_rfl) (by omega)) ?_
   refine K.q [K.iv ((q + 1 : Nat) : Int)] (K.z (K.t ?_))
   refine ⟨_, ?_, q + 1, rfl, ⟨by rfl, by rfl, by rfl, by rfl, by rfl, by rfl, by rfl, trivial⟩, (by omega), hS.pick [0, 1, 2, 3, 4, 5, 6]⟩
   omega
  ·
   refine K.x ((((q : Nat) : Int) : Int) < (((n : Nat) : Int) : Int)) h_13 ?_
   refine K.z (K.t (K.f ?_))
   refine K.KW.exit ?_
   refine K.thn_exit ?_
   refine K.thn_exit ?_
   refine K.blk_hit ?_
   refine K.t (K.s (K.s (K.g (K.q [K.iv 0] (K.z (K.t ?_))))))
   refine K.KW.block ?_
   refine K.KW.loop (fun m_ F_ w_ => ∃ (r : Nat) (z1 : K.Cs), m_ = t - r ∧ K.Sl F_ [(0, K.pa p), (1, K.iv 3), (2, K.iv i), (3, K.iv j), (8, K.iv 0), (11, K.iv ((r : Nat) : Int)), (202, undef)] ∧ r ≤ t ∧ RowsG BoolG z1 vs (clrTo (fun _ => true) r D.flush) ∧ K.Sat w0 [g, gk, gs, gw, gf, z1, fr] w_) ((fun (r : Nat) => t - r) 0) ?_ ?_
   ·
    exact ⟨0, gz, rfl, ⟨by rfl, by rfl, by rfl, by rfl, by rfl, by rfl, by rfl, trivial⟩, (by omega), (by rw [clrTo_zero]; exact oz), hS.pick [0, 1, 2, 3, 4, 5, 6]⟩
   ·
    clear hS
    intro m_14 F_15 w hI
    obtain ⟨r, z1, rfl, sl_16, p_17, x_18, hS⟩ := hI
    rw [← K.Sl.puts sl_16]; clear sl_16
    have hBr := fun h : r < t => lB _ (mem_getD (l := D.flush) (k := r) [] (by omega))
    refine K.s (K.s (K.g (K.q [K.iv ((r : Nat) : Int), K.pa p, K.pa p, .pointer (some ⟨p, 3, none⟩)] ?_)))
    refine K.d (.slice (some ⟨b_7, 0, none⟩) t cf) ((hS.blk 0 rfl hg).cell rfl) ?_
    refine K.a (K.QR.len (P := Tryz.prog) rfl rfl Tryz.underlying158) ?_
    by_cases h_19 : (((r : Nat) : Int) : Int) < (((t : Nat) : Int) : Int)
    ·
     refine K.y ((((r : Nat) : Int) : Int) < (((t : Nat) : Int) : Int)) h_19 ?_
     refine K.z (K.t (K.h (K.k (K.t (K.s ?_)))))
     refine K.KW.block ?_
     refine K.s (K.g (K.q [K.iv 0] (K.z (K.t ?_))))
     refine K.KW.block ?_
     refine K.KW.loop (fun m_ F_ w_ => ∃ (m : Nat) (z2 : K.Cs), m_ = n - m ∧ K.Sl F_ [(0, K.pa p), (1, K.iv 3), (2, K.iv i), (3, K.iv j), (8, K.iv 0), (11, K.iv ((r : Nat) : Int)), (12, K.iv ((m : Nat) : Int)), (202, undef)] ∧ m ≤ n ∧ RowsG BoolG z2 vs ((clrTo (fun _ => true) r D.flush).set r (rowTo ((fun _ => true) r) m (D.flush.getD r []))) ∧ K.Sat w0 [g, gk, gs, gw, gf, z2, fr] w_) ((fun (m : Nat) => n - m) 0) ?_ ?_
     ·
      exact ⟨0, z1, rfl, ⟨by rfl, by rfl, by rfl, by rfl, by rfl, by rfl, by rfl, by rfl, trivial⟩, (by omega), (by rw [clr_start (by omega)]; exact x_18), hS.pick [0, 1, 2, 3, 4, 5, 6]⟩
     ·
      clear hS
      intro m_20 F_21 w hI
      obtain ⟨m, z2, rfl, sl_22, p_23, x_24, hS⟩ := hI
      rw [← K.Sl.puts sl_22]; clear sl_22
      refine K.s (K.s (K.g (K.q [K.iv ((m : Nat) : Int), K.pa p, K.pa p, .pointer (some ⟨p, 2, none⟩)] ?_)))
      refine K.d (.slice (some ⟨b_5, 0, none⟩) n cw) ((hS.blk 0 rfl hg).cell rfl) ?_
      refine K.a (K.QR.len (P := Tryz.prog) rfl rfl Tryz.underlying44) ?_
      by_cases h_25 : (((m : Nat) : Int) : Int) < (((n : Nat) : Int) : Int)
      ·
       refine K.y ((((m : Nat) : Int) : Int) < (((n : Nat) : Int) : Int)) h_25 ?_
       refine K.z (K.t (K.h (K.k (K.t (K.s ?_)))))
       refine K.KW.block ?_
       refine K.s (K.g (K.q [K.iv 3, .bool false, .bool false] (K.n_ (K.n_ (K.n_ (K.q [.bool false, .bool false, K.iv 3, .bool true, .bool true, K.iv 3, .bool true, .bool true, .bool true] (K.z (K.t (K.h ?_)))))))))
       have hC : (fun _ => true) r = true := rfl
       have hBn := hBr (by omega); have hlr := rowTo_len (b := (fun _ => true) r) (m := m) (B := D.flush.getD r []) (by omega)
       obtain ⟨gA, gi, gC, vi, rfl, hvk, hbg, hset⟩ := x_24.at [] r (by rw [List.length_set, clrTo_len]; omega)
       rw [getD_set_self (by rw [clrTo_len]; omega)] at hbg
       obtain ⟨ia, ic, rfl, oi⟩ := hbg
       replace hS : K.Sat w0 [g, gk, gs, gw, gf, gA, gi, gC, fr] w := hS.of
       refine K.g (K.q [K.pa p, K.pa p, .pointer (some ⟨p, 3, none⟩)] ?_)
       refine K.d (.slice (some ⟨b_7, 0, none⟩) t cf) ((hS.blk 0 rfl hg).cell rfl) ?_
       refine K.q [K.iv ((r : Nat) : Int)] ?_
       refine K.a (K.QR.ix r 1 rfl rfl rfl Tryz.underlying158 (by kernel_rfl) (by omega) (by first | (simp; done) | omega | (simp; omega))) ?_
       refine K.d (.slice ia ((rowTo ((fun _ => true) r) m (D.flush.getD r [])).length) ic) (dv_ld (hS.ownr 4 rfl of) lv hvk) ?_
       refine K.q [K.iv ((m : Nat) : Int)] ?_
       obtain ⟨b_26, rfl⟩ := oi.some_ (by have := oi.le; omega)
       refine K.a (K.QR.ix m 1 rfl rfl rfl Tryz.underlying26 (by kernel_rfl) (by omega) (by first | (simp; done) | omega | (simp; omega))) ?_
       refine K.l (K.OW.grst 6 m [.bool false] ((((rowTo ((fun _ => true) r) m (D.flush.getD r [])).set m false)).flatMap cBool) hS oi ?_ (by show _ + 1 ≤ _; omega) (K.set1 (c := cBool) (rowTo ((fun _ => true) r) m (D.flush.getD r [])) m false (by omega)))
       clear hS; intro w l_28 o_29 hS
       have ln_30 : (((rowTo ((fun _ => true) r) m (D.flush.getD r [])).set m false)).length = _ := (List.length_set).trans rfl
       replace hS : K.Sat w0 [g, gk, gs, gw, gf, gA, l_28, gC, fr] w := hS
       refine K.z ?_
       refine K.blk_normal ?_
       refine K.t (K.g (K.q [K.iv ((m : Nat) : Int)] ?_))
       refine K.a (K.QR.n64 ((((m : Nat) : Int) : Int) + (1 : Int)) ((m + 1 : Nat) : Int) (by kernel_rfl) (by omega)) ?_
       refine K.q [K.iv ((m + 1 : Nat) : Int)] (K.z (K.t ?_))
       replace hS : K.Sat w0 [[gA, l_28, gC].flatten, g, gk, gs, gw, gf, fr] w := (hS.pick [5, 6, 7, 0, 1, 2, 3, 4, 8]).of
       replace hS : K.Sat w0 [g, gk, gs, gw, gf, [gA, l_28, gC].flatten, fr] w := hS.pick [1, 2, 3, 4, 5, 0, 6]
       refine ⟨_, ?_, m + 1, [gA, l_28, gC].flatten, rfl, ⟨by rfl, by rfl, by rfl, by rfl, by rfl, by rfl, by rfl, by rfl, trivial⟩, (by omega), ((hset _ (.slice (some ⟨b_26, 0, none⟩) ((rowTo ((fun _ => true) r) m (D.flush.getD r [])).length) ic) ((rowTo ((fun _ => true) r) m (D.flush.getD r [])).set m false) ⟨_, _, by rw [List.length_set], by rw [List.length_set]; exact o_29⟩).same rfl (set_self hvk) (by rw [List.set_set, hC, rowTo_set (by rw [hBr (by omega)]; omega)])), hS.pick [0, 1, 2, 3, 4, 5, 6]⟩
       omega
      ·
       refine K.x ((((m : Nat) : Int) : Int) < (((n : Nat) : Int) : Int)) h_25 ?_
       refine K.z (K.t (K.f ?_))
       refine K.KW.exit ?_
       refine K.thn_exit ?_
       refine K.thn_exit ?_
       refine K.blk_hit ?_
       refine K.blk_normal ?_
       refine K.t (K.g (K.q [K.iv ((r : Nat) : Int)] ?_))
       refine K.a (K.QR.n64 ((((r : Nat) : Int) : Int) + (1 : Int)) ((r + 1 : Nat) : Int) (by kernel_rfl) (by omega)) ?_
       refine K.q [K.iv ((r + 1 : Nat) : Int)] (K.z (K.t ?_))
       obtain rfl : n = m := by omega
       refine ⟨_, ?_, r + 1, z2, rfl, ⟨by rfl, by rfl, by rfl, by rfl, by rfl, by rfl, by rfl, trivial⟩, (by omega), (by rw [← clr_next (by omega) (hBr (by omega))]; exact x_24), hS.pick [0, 1, 2, 3, 4, 5, 6]⟩
       omega
    ·
     refine K.x ((((r : Nat) : Int) : Int) < (((t : Nat) : Int) : Int)) h_19 ?_
     refine K.z (K.t (K.f ?_))
     refine K.KW.exit ?_
     refine K.thn_exit ?_
     refine K.thn_exit ?_
     refine K.blk_hit ?_
     refine K.t (K.s (K.s (K.g (K.q [K.iv 0] (K.z (K.t ?_))))))
     refine K.KW.block ?_
     refine K.KW.loop (fun m_ F_ w_ => ∃ (u : Nat) (s1 : K.Cs), m_ = n * 8 - u ∧ K.Sl F_ [(0, K.pa p), (1, K.iv 3), (2, K.iv i), (3, K.iv j), (8, K.iv 0), (13, K.iv ((u : Nat) : Int)), (202, undef)] ∧ u ≤ n * 8 ∧ K.OwnG s1 57 1 (some ⟨b_3, 0, none⟩) (n * 8) cs (((D.kept.take u ++ D.seen.drop u)).flatMap cU64) ∧ K.Sat w0 [g, gk, s1, gw, gf, z1, fr] w_) ((fun (u : Nat) => n * 8 - u) 0) ?_ ?_
     ·
      exact ⟨0, gs, rfl, ⟨by rfl, by rfl, by rfl, by rfl, by rfl, by rfl, by rfl, trivial⟩, (by omega), os, hS.pick [0, 1, 2, 3, 4, 5, 6]⟩
     ·
      clear hS
      intro m_31 F_32 w hI
      obtain ⟨u, s1, rfl, sl_33, p_34, x_35, hS⟩ := hI
      rw [← K.Sl.puts sl_33]; clear sl_33
      refine K.s (K.s (K.g (K.q [K.iv ((u : Nat) : Int), K.pa p, K.pa p, .pointer (some ⟨p, 1, none⟩)] ?_)))
      refine K.d (.slice (some ⟨b_3, 0, none⟩) (n * 8) cs) ((hS.blk 0 rfl hg).cell rfl) ?_
      refine K.a (K.QR.len (P := Tryz.prog) rfl rfl Tryz.underlying78) ?_
      by_cases h_36 : (((u : Nat) : Int) : Int) < (((n * 8 : Nat) : Int) : Int)
      ·
       refine K.y ((((u : Nat) : Int) : Int) < (((n * 8 : Nat) : Int) : Int)) h_36 ?_
       refine K.z (K.t (K.h (K.k (K.t (K.s ?_)))))
       refine K.KW.block ?_
       refine K.s (K.g (K.q [K.iv 3, .bool true, .bool true, K.iv 3, .bool true, .bool true] (K.z (K.t (K.h ?_)))))
       refine K.KW.gdrawn [0] hS (by kernel_rfl) ?_
       clear hS; intro w hS
       refine K.p 0 rfl (K.pa p) (hS.pick [0]) ?_
       refine K.p 1 rfl (K.pa p) (hS.pick [0]) ?_
       refine K.p 2 rfl (.pointer (some ⟨p, 1, none⟩)) (hS.pick [0]) ?_
       refine K.o_ 3 rfl (.slice (some ⟨b_3, 0, none⟩) (n * 8) cs) (fun w hS => ((hS.blk 0 rfl hg).cell rfl)) (hS.pick [0]) ?_
       refine K.p 4 rfl (K.iv ((u : Nat) : Int)) (hS.pick [0]) ?_
       refine K.p 5 rfl (K.pa p) (hS.pick [0]) ?_
       refine K.p 6 rfl (K.pa p) (hS.pick [0]) ?_
       refine K.p 7 rfl (K.pa p) (hS.pick [0]) ?_
       refine K.o_ 8 rfl (.slice (some ⟨b_1, 0, none⟩) (n * 8) ck) (fun w hS => ((hS.blk 0 rfl hg).cell rfl)) (hS.pick [0]) ?_
       refine K.b 9 rfl (K.iv ((u : Nat) : Int)) (hS.pick [0]) ?_
       refine K.c 10 rfl (K.QR.ix u 1 rfl rfl rfl Tryz.underlying78 (by kernel_rfl) (by omega) (by first | (simp; done) | omega | (simp; omega))) (hS.pick [0]) ?_
       refine K.c 11 rfl (K.QR.ld1 (v := .int .u64 (D.kept.getD u 0)) rfl rfl (by kernel_rfl) (K.Own.atS (c := cU64) (d := 0) (fun _ => rfl) (hS.ownr 1 rfl ok) lk u (by omega))) (hS.pick [0]) ?_
       refine K.c 12 rfl (K.QR.ix u 1 rfl rfl rfl Tryz.underlying78 (by kernel_rfl) (by omega) (by first | (simp; done) | omega | (simp; omega))) (hS.pick [0]) ?_
       refine K.DW.l 13 rfl (by kernel_rfl) rfl (K.OW.grst 2 u [.int .u64 (D.kept.getD u 0)] ((((D.kept.take u ++ D.seen.drop u).set u (D.kept.getD u 0))).flatMap cU64) hS x_35 ?_ (by show _ + 1 ≤ _; omega) (K.set1 (c := cU64) (D.kept.take u ++ D.seen.drop u) u (D.kept.getD u 0) (by have := (pre_len lk ls (by omega)); omega)))
       clear hS; intro w l_37 o_38 hS
       have ln_39 : (((D.kept.take u ++ D.seen.drop u).set u (D.kept.getD u 0))).length = _ := (List.length_set).trans (pre_len lk ls (by omega))
       replace hS : K.Sat w0 [g, gk, l_37, gw, gf, z1, fr] w := hS
       refine ⟨.inr (by kernel_rfl), ?_⟩
       refine K.DW.done (by kernel_rfl) ?_
       refine K.blk_normal ?_
       refine K.t (K.g (K.q [K.iv ((u : Nat) : Int)] ?_))
       refine K.a (K.QR.n64 ((((u : Nat) : Int) : Int) + (1 : Int)) ((u + 1 : Nat) : Int) (by kernel_rfl) (by omega)) ?_
       refine K.q [K.iv ((u + 1 : Nat) : Int)] (K.z (K.t ?_))
       refine ⟨_, ?_, u + 1, l_37, rfl, ⟨by rfl, by rfl, by rfl, by rfl, by rfl, by rfl, by rfl, trivial⟩, (by omega), (by rw [← pre_set (by omega) (by omega)]; exact o_38), hS.pick [0, 1, 2, 3, 4, 5, 6]⟩
       omega
      ·
       refine K.x ((((u : Nat) : Int) : Int) < (((n * 8 : Nat) : Int) : Int)) h_36 ?_
       refine K.z (K.t (K.f ?_))
       refine K.KW.exit ?_
       refine K.thn_exit ?_
       refine K.thn_exit ?_
       refine K.blk_hit ?_
       refine K.t (K.s (K.g (K.q [K.iv 0] (K.z (K.t (K.r ?_))))))
       obtain rfl : u = n * 8 := by omega
       obtain rfl : r = t := by omega
       have e1 : D.kept.take (n * 8) ++ D.seen.drop (n * 8) = D.kept := by rw [List.take_of_length_le (by omega), List.drop_of_length_le (by omega), List.append_nil]
       replace hS : K.Sat w0 [[g, gk, s1, gw, gf, z1].flatten, fr] w := (hS.pick [0, 1, 2, 3, 4, 5, 6]).of
       refine ⟨.inr rfl, rfl, (K.iv 0), K.res1 rfl rfl, [[g, gk, s1, gw, gf, z1].flatten], ?_, hS.pick [0, 1]⟩
       exact ⟨rfl, _, rfl, ⟨_, _, _, _, _, _, _, _, _, _, _, _, _, _, _, rfl, hg, ok, (by have h := x_35; rw [e1] at h; exact h), ow, of, lv, (by have h := x_18; rw [clr_all lf] at h; exact h), ⟨lk, lk, lw, by unfold DevM.crash; simpa using lf, fun B hB => by obtain ⟨B0, h0, rfl⟩ := List.mem_map.1 hB; unfold clr; rw [List.length_replicate]; exact lB B0 h0, n0, n1, t0, t1⟩⟩⟩
end Go.Proofs.YtbfafebfkdbglaaGreat
