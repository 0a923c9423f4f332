import Derived.Test.YtnehocjmgnhhhaaKf
import Derived.Test.YtnehocjmgnhhhaaFso
import Derived.Test.YtnehocjmgnhhhaaKn
/- A region that draws its order, in which a row is read and then written: what is read is asked for only as long as none of the writing operations is listed. -/
namespace Go.Proofs.Ytnehocjmgnhhhaa
open Go.RowKit
set_option linter.unusedVariables false
namespace K
/-- the operation is ahead of all of these -/
def befM (ops : Array Oper) (M : List Nat) (i : Nat) : Bool := M.all fun m => (upL ops 8 (aft ops m)).any (Nat.beq · i)
def someM (M : List Nat) (listed : Array Bool) : Bool := M.any fun m => listed.getD m false
def wpAnyM (P : Program) (ops : Array Oper) (Q : Exit → Act → World → Prop) (S : World → Prop) (M : List Nat) : Nat → Array Bool → Act → World → Prop
  | 0, listed, a, w => Region.ready .any ops listed = [] ∧ Q .normal a w
  | fuel + 1, listed, a, w =>
    (Region.ready .any ops listed = [] → Q .normal a w) ∧
    ∀ i ∈ Region.ready .any ops listed, wpOp P ops Q i (fun a' w' => (S w' ∨ i ∈ M ∨ someM M listed = true) ∧ wpAnyM P ops Q S M fuel (listed.setIfInBounds i true) a' w') a w
section
variable {P : Program} {ops : Array Oper} {QA : Exit → Act → World → Prop} {S : World → Prop} {M : List Nat}
theorem wpAny_of_M : ∀ (fuel : Nat) (listed : Array Bool) (a : Act) (w : World), wpAnyM P ops QA S M fuel listed a w → wpAny P .any ops QA fuel listed a w
  | 0, _, _, _, h => h
  | fuel + 1, _, _, _, h => ⟨h.1, fun i hi => wpOp_mono (fun a' w' h' => wpAny_of_M fuel _ a' w' h'.2) (h.2 i hi)⟩
theorem someM_set {listed : Array Bool} {j : Nat} (h : someM M listed = true) : someM M (listed.setIfInBounds j true) = true := by
  obtain ⟨m, hm, h⟩ := List.any_eq_true.1 h
  exact List.any_eq_true.2 ⟨m, hm, getD_set_true h⟩
theorem someM_ne {listed : Array Bool} {i : Nat} (hi : i ∉ M) (h : someM M (listed.setIfInBounds i true) = true) : someM M listed = true := by
  obtain ⟨m, hm, h⟩ := List.any_eq_true.1 h
  refine List.any_eq_true.2 ⟨m, hm, ?_⟩
  have hne : ¬ i = m := fun e => hi (by rw [e]; exact hm)
  rw [getD_set_ne false hne] at h
  exact h
theorem someM_in {listed : Array Bool} {j : Nat} (hj : j ∈ M) (hl : listed.getD j true = false) : someM M (listed.setIfInBounds j true) = true := by
  refine List.any_eq_true.2 ⟨j, hj, ?_⟩
  rcases Nat.lt_or_ge j listed.size with h | h
  · simp [Array.getD, h]
  · simp [Array.getD, Nat.not_lt.2 h] at hl
theorem befM_no {listed : Array Bool} {i : Nat} (hb : befM ops M i = true) (hcl : shutL ops listed = true) (hi : listed.getD i true = false) : someM M listed = false := by
  cases hs : someM M listed with
  | false => rfl
  | true =>
    exfalso
    obtain ⟨m, hm, h⟩ := List.any_eq_true.1 hs
    obtain ⟨q, hq, h2⟩ := List.any_eq_true.1 (List.all_eq_true.1 hb m hm)
    have h3 := upL_listed hcl 8 _ (aft_listed hcl h) q hq
    rw [Nat.eq_of_beq_eq_true h2] at h3
    rcases Nat.lt_or_ge i listed.size with h' | h'
    · simp [Array.getD, h'] at hi h3; rw [hi] at h3; cases h3
    · simp [Array.getD, Nat.not_lt.2 h'] at hi
theorem wpAnyM_first {S' : World → Prop} {i : Nat} {oi : Oper} {v : Value} (hi : ops[i]? = some oi) (hsel : ∀ (j : Nat) (o : Oper) cs b, ops[j]? = some o → o.op ≠ .select cs b)
    (hQ : ∀ c a w, QA (.panic c) (a.put oi.dst v) w → QA (.panic c) a w) (hM : i ∉ M) (hS' : ∀ listed w, shutL ops listed = true → listed.getD i true = false → (S w ∨ someM M listed = true) → S' w) :
    ∀ (fuel : Nat) (listed : Array Bool) (a : Act) (w : World),
      (∀ j oj, ops[j]? = some oj → j ≠ i → listed.getD j true = false → (∀ e ∈ oj.after, Region.binds .any e = true → e.on ≠ i) → oi.apart ops oj = true) →
      shutL ops listed = true → i ∈ Region.ready .any ops listed → YieldsIf P ops S' oi v a → (S w ∨ someM M listed = true) →
      wpAnyM P ops QA S M fuel (listed.setIfInBounds i true) (a.put oi.dst v) w → wpAnyM P ops QA S M (fuel + 1) listed a w := by
  intro fuel
  induction fuel with
  | zero =>
    intro listed a w _ hcl hr hy hS H
    refine ⟨fun h => (by rw [h] at hr; cases hr), fun j hj => ?_⟩
    by_cases hji : j = i
    · subst hji; exact hy.wpOp hi (hS' _ _ hcl (mem_ready.1 hr).1 hS) ⟨hS.imp id .inr, H⟩
    · have := ready_mono hj hji
      rw [H.1] at this
      cases this
  | succ fuel ih =>
    intro listed a w hfree hcl hr hy hS H
    refine ⟨fun h => (by rw [h] at hr; cases hr), fun j hj => ?_⟩
    by_cases hji : j = i
    · subst hji; exact hy.wpOp hi (hS' _ _ hcl (mem_ready.1 hr).1 hS) ⟨hS.imp id .inr, H⟩
    · have h1 := H.2 j (ready_mono hj hji)
      obtain ⟨hjun, oj, hoj, hall⟩ := mem_ready.1 hj
      have hnot : ∀ e ∈ oj.after, Region.binds .any e = true → e.on ≠ i := fun e he hb heq => by
        have h1 := hall e he hb
        have h0 := (mem_ready.1 hr).1
        rw [heq] at h1
        rcases Nat.lt_or_ge i listed.size with h' | h'
        · simp [h'] at h0 h1; rw [h0] at h1; cases h1
        · simp [Array.getElem?_eq_none h'] at h1
      have h2 := wpOp_putIf hoj (hfree j oj hoj hji hjun hnot) (fun cs b => hsel i oi cs b hi) (fun cs b => hsel j oj cs b hoj) hQ hy h1
      have hfree' : ∀ k ok, ops[k]? = some ok → k ≠ i → (listed.setIfInBounds j true).getD k true = false →
          (∀ e ∈ ok.after, Region.binds .any e = true → e.on ≠ i) → oi.apart ops ok = true := fun k ok hk hki hun hno => by
        refine hfree k ok hk hki ?_ hno
        by_cases hjk : j = k
        · subst hjk; exact hjun
        · rw [getD_set_ne true hjk] at hun; exact hun
      refine wpOp_mono (fun a' w' h3 => ?_) h2
      have hc : S w' ∨ j ∈ M ∨ someM M listed = true := h3.2.1.imp id (Or.imp id (someM_ne hM))
      refine ⟨hc, ih (listed.setIfInBounds j true) a' w' hfree' (shut_set hcl hj) (ready_mono hr (Ne.symm hji)) h3.1 (hc.imp id fun h => h.elim (fun h => someM_in h hjun) someM_set) ?_⟩
      rw [Array.setIfInBounds_comm _ _ hji]
      exact h3.2.2
end
section
variable {P : Program} {n : Nat} {Q : Exit → Fr → World → Prop} {F : Fr} {w w0 : World} {ops : Array Oper} {S : World → Prop} {M : List Nat} {fuel : Nat} {listed : Array Bool} {ls : List Cs}
def DWM (P : Program) (n : Nat) (ops : Array Oper) (S : World → Prop) (M : List Nat) (fuel : Nat) (listed : Array Bool) (Q : Exit → Fr → World → Prop) (F : Fr) (w : World) : Prop :=
  wpAnyM P ops (lq n Q) S M fuel listed (fr n F) w
theorem KW.gdrawnM {ρ : Option Nat} {id : Nat} {l : List Oper} (is : List Nat) (M : List Nat) (hS : Sat w0 ls w) (hm : P.follows .mixedOrders = true)
    (h : ∀ w1, Sat w0 ls w1 → DWM P n l.toArray (Sat w0 (pick is ls)) M l.length (Array.replicate l.length false) Q F w1) (hd : ndf l = true := by rfl) : KW ρ P n (.region id l.toArray true) Q F w :=
  wpIn_region_any hm (wpAnyIn_of (by simpa using hd) _ _ _ _ (wpAny_of_M _ _ _ _ (by have := h w.drew (hS.no ((Chg.refl w).drew)); unfold DWM at this; simpa using this)))
/-- an operation that looks, ahead of all that writes -/
theorem DWM.q (i : Nat) {oi : Oper} {v : Value} {d : Option Nat} (hs : Region.noSelect ops = true) (hi : ops[i]? = some oi) (hd : oi.dst = d) (hc : canTake ops listed i = true) (hM : M.contains i = false) (hb : befM ops M i = true)
    (hg : gd ops n F oi = true) (hq : ∀ w', S w' → QR P n F oi v w') (hS : S w) (h : DWM P n ops S M fuel (listed.setIfInBounds i true) Q (updo F d v) w) : DWM P n ops S M (fuel + 1) listed Q F w := by
  subst hd
  obtain ⟨hg, hok⟩ := gd_spec hg
  simp only [canTake, Bool.and_eq_true] at hc
  refine wpAnyM_first (S' := S) hi (Region.noSelect_spec hs) (lq_panic_put n Q _ _) (by simpa using hM) (fun l w hcl hl h => h.resolve_right (by rw [befM_no hb hcl hl]; simp)) _ _ _ _ (Region.free_spec hi hc.1.1) hc.2 (by simpa using hc.1.2) (.inl ⟨by rw [wanted_fr]; exact hg, fun w' hw' => by rw [eval_fr]; exact hq w' hw'⟩) (.inl hS) ?_
  rw [put_fr _ _ _ _ hok]; exact h
/-- an operation that looks at no memory -/
theorem DWM.k (i : Nat) {oi : Oper} {v : Value} {d : Option Nat} (hs : Region.noSelect ops = true) (hi : ops[i]? = some oi) (hd : oi.dst = d) (hc : canTake ops listed i = true) (hM : M.contains i = false)
    (hg : gd ops n F oi = true) (hq : ∀ w', QR P n F oi v w') (hS : S w ∨ someM M listed = true) (h : DWM P n ops S M fuel (listed.setIfInBounds i true) Q (updo F d v) w) : DWM P n ops S M (fuel + 1) listed Q F w := by
  subst hd
  obtain ⟨hg, hok⟩ := gd_spec hg
  simp only [canTake, Bool.and_eq_true] at hc
  refine wpAnyM_first (S' := fun _ => True) hi (Region.noSelect_spec hs) (lq_panic_put n Q _ _) (by simpa using hM) (fun _ _ _ _ _ => trivial) _ _ _ _ (Region.free_spec hi hc.1.1) hc.2 (by simpa using hc.1.2) (.inl ⟨by rw [wanted_fr]; exact hg, fun w' _ => by rw [eval_fr]; exact hq w'⟩) hS ?_
  rw [put_fr _ _ _ _ hok]; exact h
/-- a writing operation, alone ready -/
theorem DWM.l (i : Nat) {oi : Oper} (hi : ops[i]? = some oi) (hr : Region.ready .any ops listed = [i]) (hM : M.contains i = true) (hg : gd ops n F oi = true)
    (h : OW P n F oi w (fun G w' => DWM P n ops S M fuel (listed.setIfInBounds i true) Q G w')) : DWM P n ops S M (fuel + 1) listed Q F w := by
  obtain ⟨hg, hok⟩ := gd_spec hg
  refine ⟨fun h0 => absurd (hr ▸ h0) (by simp), hr ▸ ?_⟩
  intro j hj
  simp only [List.mem_singleton] at hj
  subst hj
  unfold wpOp
  rw [hi]
  simp only []
  rw [wanted_fr, if_pos hg]
  refine .inl (Oper.wp_mono ?_ (h hok _))
  rintro a w' ⟨G, rfl, h⟩
  exact ⟨.inr (.inl (by simpa using hM)), h⟩
theorem DWM.done (hr : Region.ready .any ops listed = []) (h : Q .normal F w) : DWM P n ops S M fuel listed Q F w := by
  unfold DWM
  cases fuel with
  | zero => exact ⟨hr, lq_normal h⟩
  | succ f => exact ⟨fun _ => lq_normal h, by rw [hr]; simp⟩
end
end K
end Go.Proofs.Ytnehocjmgnhhhaa

/- Witness: the sort: comparing, insertion. -/
namespace Go.Proofs.Ytnehocjmgnhhhaa
open Go.RowKit
set_option linter.unusedVariables false
attribute [local irreducible] K.KW K.RW K.DW K.OW K.QR K.KC K.DWM
set_option maxHeartbeats 1000000 in
set_option maxRecDepth 100000 in
theorem nanI_ok (w0 : World) (x : Int) :
  K.GC Try.prog w0 42 #[.int .i64 x] [] (fun v post => post = [] ∧ v = .bool false) := by
 refine K.GC.mk (n := 6) Try.func42 rfl rfl [.int .i64 x] rfl rfl ?_
 intro fr w hS
 replace hS : K.Sat w0 [fr] w := hS
 refine K.s (K.g (K.q [.bool false] (K.z (K.t (K.s (K.g (K.q [.int .i64 x, .int .i64 x] ?_)))))))
 refine K.xn (x : Int) (x : Int) (rfl) ?_
 refine K.q [.bool false] (K.z (K.t (K.r ?_)))
 refine ⟨.inr rfl, rfl, (.bool false), K.res1 rfl rfl, [], ?_, hS.pick [0]⟩
 exact ⟨rfl, rfl⟩
set_option maxHeartbeats 1000000 in
set_option maxRecDepth 100000 in
theorem cmpG_ok (w0 : World) (x y : Int) :
  K.GC Try.prog w0 25 #[.int .i64 x, .int .i64 y] [] (fun v post => post = [] ∧ v = .int .i64 (cmpI x y)) := by
 refine K.GC.mk (n := 20) Try.func25 rfl rfl [.int .i64 x, .int .i64 y] rfl rfl ?_
 intro fr w hS
 replace hS : K.Sat w0 [fr] w := hS
 refine K.s (K.g (K.q [.int .i64 0] (K.z (K.t (K.s (K.g (K.q [.int .i64 x] ?_)))))))
 refine K.l (K.OW.gcall hS [] [0] [.int .i64 x] (nanI_ok _ x) ?_)
 clear hS; rintro _ _ w ⟨rfl, rfl⟩ hS
 replace hS : K.Sat w0 [fr] w := hS
 refine K.q [.bool false] (K.z (K.t (K.s (K.g (K.q [.int .i64 y] ?_)))))
 refine K.l (K.OW.gcall hS [] [0] [.int .i64 y] (nanI_ok _ y) ?_)
 clear hS; rintro _ _ w ⟨rfl, rfl⟩ hS
 replace hS : K.Sat w0 [fr] w := hS
 refine K.q [.bool false] (K.z (K.t (K.s (K.s (K.g (K.q [.bool false] (K.z (K.t (K.f (K.k (K.t (K.s (K.s (K.g ?_))))))))))))))
 refine K.q [.bool false] (K.z (K.t (K.f (K.k (K.t (K.s (K.s (K.g (K.q [.int .i64 x, .int .i64 y] ?_)))))))))
 by_cases h_1 : (x : Int) < (y : Int)
 ·
  refine K.y ((x : Int) < (y : Int)) h_1 ?_
  refine K.z (K.t (K.h (K.s (K.g (K.q [.int .i64 (-1)] (K.z (K.t (K.r (K.u ?_)))))))))
  refine ⟨.inr rfl, rfl, (.int .i64 (-1)), K.res1 rfl rfl, [], ?_, hS.pick [0]⟩
  exact ⟨rfl, congrArg (Value.int .i64) (by unfold cmpI; (repeat' split) <;> omega)⟩
 ·
  refine K.x ((x : Int) < (y : Int)) h_1 ?_
  refine K.z (K.t (K.f (K.k (K.t (K.s (K.s (K.g (K.q [.int .i64 x, .int .i64 y] ?_))))))))
  by_cases h_2 : (x : Int) > (y : Int)
  ·
   refine K.y ((x : Int) > (y : Int)) h_2 ?_
   refine K.z (K.t (K.h (K.s (K.g (K.q [.int .i64 1] (K.z (K.t (K.r (K.u ?_)))))))))
   refine ⟨.inr rfl, rfl, (.int .i64 1), K.res1 rfl rfl, [], ?_, hS.pick [0]⟩
   exact ⟨rfl, congrArg (Value.int .i64) (by unfold cmpI; (repeat' split) <;> omega)⟩
  ·
   refine K.x ((x : Int) > (y : Int)) h_2 ?_
   refine K.z (K.t (K.f (K.k (K.t (K.s (K.g (K.q [.int .i64 0] (K.z (K.t (K.r ?_))))))))))
   refine ⟨.inr rfl, rfl, (.int .i64 0), K.res1 rfl rfl, [], ?_, hS.pick [0]⟩
   exact ⟨rfl, congrArg (Value.int .i64) (by unfold cmpI; (repeat' split) <;> omega)⟩
set_option maxHeartbeats 1000000 in
set_option maxRecDepth 100000 in
theorem order1_ok (w0 : World) (bc : Nat) (gc : K.Cs) (a : Option Addr) (cap : Nat) (L : List CallM) (hm : L.length ≤ 1000000) (hgc : gc = [K.pt bc 22 [.slice a L.length cap]]) (gx : K.Cs) (hx : ∀ w, K.Sat w0 [gx] w → K.RowE w a L.length 11 (fun i => cCall (L.getD i call0))) (x y : Int) (h1 : 0 ≤ x ∧ x < (L.length : Int)) (h2 : 0 ≤ y ∧ y < (L.length : Int)) :
  K.GC Try.prog w0 24 #[.int .i64 x, .int .i64 y, .pointer (some ⟨bc, 0, none⟩)] [gc, gx] (fun v post => post = [gc, gx] ∧ v = .int .i64 (cmpI (keyL L x) (keyL L y))) := by
 refine K.GC.mk (n := 17) Try.func24 rfl rfl [.int .i64 x, .int .i64 y, .pointer (some ⟨bc, 0, none⟩)] rfl rfl ?_
 intro fr w hS
 replace hS : K.Sat w0 [gc, gx, fr] w := hS
 refine K.s (K.g (K.q [.int .i64 0] (K.z (K.t (K.s ?_)))))
 obtain ⟨b_1, of_2, rfl, _⟩ := (hx _ (hS.pick [1])).at_ (by omega)
 refine K.KW.gdrawn [0, 1] hS (by kernel_rfl) ?_
 clear hS; intro w hS
 refine K.o_ 0 rfl (.slice (some ⟨b_1, of_2, none⟩) L.length cap) (fun w hS => ((hS.blk 0 rfl hgc).cell rfl)) (hS.pick [0, 1]) ?_
 refine K.p 1 rfl (.int .i64 x) (hS.pick [0, 1]) ?_
 refine K.m 2 rfl (fun w hS => K.QR.ix (of_2 + x.toNat * 11) 11 rfl rfl rfl Try.underlying22 (by kernel_rfl) (by omega) (by first | (simp; done) | omega | (simp; omega))) (hS.pick [0, 1]) ?_
 refine K.p 3 rfl (.pointer (some ⟨b_1, of_2 + x.toNat * 11 + 8, none⟩)) (hS.pick [0, 1]) ?_
 refine K.o_ 4 rfl (.int .i64 ((L.getD x.toNat call0).wh)) (fun w hS => ((hx _ (hS.pick [1])).ld x.toNat (by omega) 8 _ rfl)) (hS.pick [0, 1]) ?_
 refine K.o_ 5 rfl (.slice (some ⟨b_1, of_2, none⟩) L.length cap) (fun w hS => ((hS.blk 0 rfl hgc).cell rfl)) (hS.pick [0, 1]) ?_
 refine K.b 6 rfl (.int .i64 y) (hS.pick [0, 1]) ?_
 refine K.c 7 rfl (K.QR.ix (of_2 + y.toNat * 11) 11 rfl rfl rfl Try.underlying22 (by kernel_rfl) (by omega) (by first | (simp; done) | omega | (simp; omega))) (hS.pick [0, 1]) ?_
 refine K.b 8 rfl (.pointer (some ⟨b_1, of_2 + y.toNat * 11 + 8, none⟩)) (hS.pick [0, 1]) ?_
 refine K.c 9 rfl (K.QR.ld1 (v := .int .i64 ((L.getD y.toNat call0).wh)) rfl rfl (by kernel_rfl) ((hx _ (hS.pick [1])).ld y.toNat (by omega) 8 _ rfl)) (hS.pick [0, 1]) ?_
 refine K.DW.l 10 rfl (by kernel_rfl) rfl (K.OW.gcall hS [] [0, 1, 2] [.int .i64 ((L.getD x.toNat call0).wh), .int .i64 ((L.getD y.toNat call0).wh)] (cmpG_ok _ ((L.getD x.toNat call0).wh) ((L.getD y.toNat call0).wh)) ?_)
 clear hS; rintro _ _ w ⟨rfl, rfl⟩ hS
 replace hS : K.Sat w0 [gc, gx, fr] w := hS
 refine ⟨.inl (hS.pick [0, 1]), ?_⟩
 refine K.b 11 rfl (.int .i64 (cmpI ((L.getD x.toNat call0).wh) ((L.getD y.toNat call0).wh))) (hS.pick [0, 1]) ?_
 refine K.DW.done (by kernel_rfl) ?_
 refine K.t (K.r ?_)
 refine ⟨.inr rfl, rfl, (.int .i64 (cmpI ((L.getD x.toNat call0).wh) ((L.getD y.toNat call0).wh))), K.res1 rfl rfl, [gc, gx], ?_, hS.pick [0, 1, 2]⟩
 exact ⟨rfl, rfl⟩
end Go.Proofs.Ytnehocjmgnhhhaa
