import Derived.Test.YtnehocjmgnhhhaaKf
/- A region that draws its order, in which a row is read and then written: what is read is asked for only as long as none of the writing operations is listed. -/
namespace Go.Proofs.Ytnehocjmgnhhhaa
open Go.RowKit
set_option linter.unusedVariables false
namespace K
/-- the operation is ahead of all of these -/
def befM (ops : Array Oper) (M : List Nat) (i : Nat) : Bool := M.all fun m => (upL ops 8 (aft ops m)).any (Nat.beq · i)
def someM (M : List Nat) (listed : Array Bool) : Bool := M.any fun m => listed.getD m false
def wpAnyM (P : Program) (ops : Array Oper) (Q : Exit → Act → World → Prop) (S : World → Prop) (M : List Nat) : Nat → Array Bool → Act → World → Prop
  | 0, listed, a, w => Region.ready .any ops listed = [] ∧ Q .normal a w
  | fuel + 1, listed, a, w =>
    (Region.ready .any ops listed = [] → Q .normal a w) ∧
    ∀ i ∈ Region.ready .any ops listed, wpOp P ops Q i (fun a' w' => (S w' ∨ i ∈ M ∨ someM M listed = true) ∧ wpAnyM P ops Q S M fuel (listed.setIfInBounds i true) a' w') a w
section
variable {P : Program} {ops : Array Oper} {QA : Exit → Act → World → Prop} {S : World → Prop} {M : List Nat}
theorem wpAny_of_M : ∀ (fuel : Nat) (listed : Array Bool) (a : Act) (w : World), wpAnyM P ops QA S M fuel listed a w → wpAny P .any ops QA fuel listed a w
  | 0, _, _, _, h => h
  | fuel + 1, _, _, _, h => ⟨h.1, fun i hi => wpOp_mono (fun a' w' h' => wpAny_of_M fuel _ a' w' h'.2) (h.2 i hi)⟩
theorem someM_set {listed : Array Bool} {j : Nat} (h : someM M listed = true) : someM M (listed.setIfInBounds j true) = true := by
  obtain ⟨m, hm, h⟩ := List.any_eq_true.1 h
  exact List.any_eq_true.2 ⟨m, hm, getD_set_true h⟩
theorem someM_ne {listed : Array Bool} {i : Nat} (hi : i ∉ M) (h : someM M (listed.setIfInBounds i true) = true) : someM M listed = true := by
  obtain ⟨m, hm, h⟩ := List.any_eq_true.1 h
  refine List.any_eq_true.2 ⟨m, hm, ?_⟩
  have hne : ¬ i = m := fun e => hi (by rw [e]; exact hm)
  rw [getD_set_ne false hne] at h
  exact h
theorem someM_in {listed : Array Bool} {j : Nat} (hj : j ∈ M) (hl : listed.getD j true = false) : someM M (listed.setIfInBounds j true) = true := by
  refine List.any_eq_true.2 ⟨j, hj, ?_⟩
  rcases Nat.lt_or_ge j listed.size with h | h
  · simp [Array.getD, h]
  · simp [Array.getD, Nat.not_lt.2 h] at hl
theorem befM_no {listed : Array Bool} {i : Nat} (hb : befM ops M i = true) (hcl : shutL ops listed = true) (hi : listed.getD i true = false) : someM M listed = false := by
  cases hs : someM M listed with
  | false => rfl
  | true =>
    exfalso
    obtain ⟨m, hm, h⟩ := List.any_eq_true.1 hs
    obtain ⟨q, hq, h2⟩ := List.any_eq_true.1 (List.all_eq_true.1 hb m hm)
    have h3 := upL_listed hcl 8 _ (aft_listed hcl h) q hq
    rw [Nat.eq_of_beq_eq_true h2] at h3
    rcases Nat.lt_or_ge i listed.size with h' | h'
    · simp [Array.getD, h'] at hi h3; rw [hi] at h3; cases h3
    · simp [Array.getD, Nat.not_lt.2 h'] at hi
theorem wpAnyM_first {S' : World → Prop} {i : Nat} {oi : Oper} {v : Value} (hi : ops[i]? = some oi) (hsel : ∀ (j : Nat) (o : Oper) cs b, ops[j]? = some o → o.op ≠ .select cs b)
    (hQ : ∀ c a w, QA (.panic c) (a.put oi.dst v) w → QA (.panic c) a w) (hM : i ∉ M) (hS' : ∀ listed w, shutL ops listed = true → listed.getD i true = false → (S w ∨ someM M listed = true) → S' w) :
    ∀ (fuel : Nat) (listed : Array Bool) (a : Act) (w : World),
      (∀ j oj, ops[j]? = some oj → j ≠ i → listed.getD j true = false → (∀ e ∈ oj.after, Region.binds .any e = true → e.on ≠ i) → oi.apart ops oj = true) →
      shutL ops listed = true → i ∈ Region.ready .any ops listed → YieldsIf P ops S' oi v a → (S w ∨ someM M listed = true) →
      wpAnyM P ops QA S M fuel (listed.setIfInBounds i true) (a.put oi.dst v) w → wpAnyM P ops QA S M (fuel + 1) listed a w := by
  intro fuel
  induction fuel with
  | zero =>
    intro listed a w _ hcl hr hy hS H
    refine ⟨fun h => (by rw [h] at hr; cases hr), fun j hj => ?_⟩
    by_cases hji : j = i
    · subst hji; exact hy.wpOp hi (hS' _ _ hcl (mem_ready.1 hr).1 hS) ⟨hS.imp id .inr, H⟩
    · have := ready_mono hj hji
      rw [H.1] at this
      cases this
  | succ fuel ih =>
    intro listed a w hfree hcl hr hy hS H
    refine ⟨fun h => (by rw [h] at hr; cases hr), fun j hj => ?_⟩
    by_cases hji : j = i
    · subst hji; exact hy.wpOp hi (hS' _ _ hcl (mem_ready.1 hr).1 hS) ⟨hS.imp id .inr, H⟩
    · have h1 := H.2 j (ready_mono hj hji)
      obtain ⟨hjun, oj, hoj, hall⟩ := mem_ready.1 hj
      have hnot : ∀ e ∈ oj.after, Region.binds .any e = true → e.on ≠ i := fun e he hb heq => by
        have h1 := hall e he hb
        have h0 := (mem_ready.1 hr).1
        rw [heq] at h1
        rcases Nat.lt_or_ge i listed.size with h' | h'
        · simp [h'] at h0 h1; rw [h0] at h1; cases h1
        · simp [Array.getElem?_eq_none h'] at h1
      have h2 := wpOp_putIf hoj (hfree j oj hoj hji hjun hnot) (fun cs b => hsel i oi cs b hi) (fun cs b => hsel j oj cs b hoj) hQ hy h1
      have hfree' : ∀ k ok, ops[k]? = some ok → k ≠ i → (listed.setIfInBounds j true).getD k true = false →
          (∀ e ∈ ok.after, Region.binds .any e = true → e.on ≠ i) → oi.apart ops ok = true := fun k ok hk hki hun hno => by
        refine hfree k ok hk hki ?_ hno
        by_cases hjk : j = k
        · subst hjk; exact hjun
        · rw [getD_set_ne true hjk] at hun; exact hun
      refine wpOp_mono (fun a' w' h3 => ?_) h2
      have hc : S w' ∨ j ∈ M ∨ someM M listed = true := h3.2.1.imp id (Or.imp id (someM_ne hM))
      refine ⟨hc, ih (listed.setIfInBounds j true) a' w' hfree' (shut_set hcl hj) (ready_mono hr (Ne.symm hji)) h3.1 (hc.imp id fun h => h.elim (fun h => someM_in h hjun) someM_set) ?_⟩
      rw [Array.setIfInBounds_comm _ _ hji]
      exact h3.2.2
end
section
variable {P : Program} {n : Nat} {Q : Exit → Fr → World → Prop} {F : Fr} {w w0 : World} {ops : Array Oper} {S : World → Prop} {M : List Nat} {fuel : Nat} {listed : Array Bool} {ls : List Cs}
def DWM (P : Program) (n : Nat) (ops : Array Oper) (S : World → Prop) (M : List Nat) (fuel : Nat) (listed : Array Bool) (Q : Exit → Fr → World → Prop) (F : Fr) (w : World) : Prop :=
  wpAnyM P ops (lq n Q) S M fuel listed (fr n F) w
theorem KW.gdrawnM {ρ : Option Nat} {id : Nat} {l : List Oper} (is : List Nat) (M : List Nat) (hS : Sat w0 ls w) (hm : P.follows .mixedOrders = true)
    (h : ∀ w1, Sat w0 ls w1 → DWM P n l.toArray (Sat w0 (pick is ls)) M l.length (Array.replicate l.length false) Q F w1) (hd : ndf l = true := by rfl) : KW ρ P n (.region id l.toArray true) Q F w :=
  wpIn_region_any hm (wpAnyIn_of (by simpa using hd) _ _ _ _ (wpAny_of_M _ _ _ _ (by have := h w.drew (hS.no ((Chg.refl w).drew)); unfold DWM at this; simpa using this)))
/-- an operation that looks, ahead of all that writes -/
theorem DWM.q (i : Nat) {oi : Oper} {v : Value} {d : Option Nat} (hs : Region.noSelect ops = true) (hi : ops[i]? = some oi) (hd : oi.dst = d) (hc : canTake ops listed i = true) (hM : M.contains i = false) (hb : befM ops M i = true)
    (hg : gd ops n F oi = true) (hq : ∀ w', S w' → QR P n F oi v w') (hS : S w) (h : DWM P n ops S M fuel (listed.setIfInBounds i true) Q (updo F d v) w) : DWM P n ops S M (fuel + 1) listed Q F w := by
  subst hd
  obtain ⟨hg, hok⟩ := gd_spec hg
  simp only [canTake, Bool.and_eq_true] at hc
  refine wpAnyM_first (S' := S) hi (Region.noSelect_spec hs) (lq_panic_put n Q _ _) (by simpa using hM) (fun l w hcl hl h => h.resolve_right (by rw [befM_no hb hcl hl]; simp)) _ _ _ _ (Region.free_spec hi hc.1.1) hc.2 (by simpa using hc.1.2) (.inl ⟨by rw [wanted_fr]; exact hg, fun w' hw' => by rw [eval_fr]; exact hq w' hw'⟩) (.inl hS) ?_
  rw [put_fr _ _ _ _ hok]; exact h
/-- an operation that looks at no memory -/
theorem DWM.k (i : Nat) {oi : Oper} {v : Value} {d : Option Nat} (hs : Region.noSelect ops = true) (hi : ops[i]? = some oi) (hd : oi.dst = d) (hc : canTake ops listed i = true) (hM : M.contains i = false)
    (hg : gd ops n F oi = true) (hq : ∀ w', QR P n F oi v w') (hS : S w ∨ someM M listed = true) (h : DWM P n ops S M fuel (listed.setIfInBounds i true) Q (updo F d v) w) : DWM P n ops S M (fuel + 1) listed Q F w := by
  subst hd
  obtain ⟨hg, hok⟩ := gd_spec hg
  simp only [canTake, Bool.and_eq_true] at hc
  refine wpAnyM_first (S' := fun _ => True) hi (Region.noSelect_spec hs) (lq_panic_put n Q _ _) (by simpa using hM) (fun _ _ _ _ _ => trivial) _ _ _ _ (Region.free_spec hi hc.1.1) hc.2 (by simpa using hc.1.2) (.inl ⟨by rw [wanted_fr]; exact hg, fun w' _ => by rw [eval_fr]; exact hq w'⟩) hS ?_
  rw [put_fr _ _ _ _ hok]; exact h
/-- a writing operation, alone ready -/
theorem DWM.l (i : Nat) {oi : Oper} (hi : ops[i]? = some oi) (hr : Region.ready .any ops listed = [i]) (hM : M.contains i = true) (hg : gd ops n F oi = true)
    (h : OW P n F oi w (fun G w' => DWM P n ops S M fuel (listed.setIfInBounds i true) Q G w')) : DWM P n ops S M (fuel + 1) listed Q F w := by
  obtain ⟨hg, hok⟩ := gd_spec hg
  refine ⟨fun h0 => absurd (hr ▸ h0) (by simp), hr ▸ ?_⟩
  intro j hj
  simp only [List.mem_singleton] at hj
  subst hj
  unfold wpOp
  rw [hi]
  simp only []
  rw [wanted_fr, if_pos hg]
  refine .inl (Oper.wp_mono ?_ (h hok _))
  rintro a w' ⟨G, rfl, h⟩
  exact ⟨.inr (.inl (by simpa using hM)), h⟩
theorem DWM.done (hr : Region.ready .any ops listed = []) (h : Q .normal F w) : DWM P n ops S M fuel listed Q F w := by
  unfold DWM
  cases fuel with
  | zero => exact ⟨hr, lq_normal h⟩
  | succ f => exact ⟨fun _ => lq_normal h, by rw [hr]; simp⟩
end
end K
end Go.Proofs.Ytnehocjmgnhhhaa
