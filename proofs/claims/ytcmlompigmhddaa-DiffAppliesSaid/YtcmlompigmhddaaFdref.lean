/- Contracts of the references of layer 34 and of diff.Lines. -/
import Derived.Test.YtcmlompigmhddaaFdlaw
namespace Go.Proofs.Ytcmlompigmhddaa
open Go.RowKit
set_option linter.unusedVariables false
attribute [local irreducible] K.KW K.RW K.DW K.OW K.QR K.KC

/-- what is known behind k changes -/
theorem applyTo_facts {xs : List Int} {l : List Chg3} (hr : right l = true) (hin : ∀ i, i < l.length → (l.getD i d3).at_ < xs.length) : ∀ k ys, k ≤ l.length → applyTo xs l k = some ys →
    ys.length = xs.length ∧ (∀ j : Nat, (∀ i, i < k → (l.getD i d3).at_ ≠ j) → ys.getD j 0 = xs.getD j 0) ∧ (∀ i, i < k → ys.getD (l.getD i d3).at_.toNat 0 = (l.getD i d3).new) ∧ (∀ i, i < k → xs.getD (l.getD i d3).at_.toNat 0 = (l.getD i d3).old)
  | 0, ys, _, h => by
    obtain rfl : xs = ys := Option.some.inj h
    exact ⟨rfl, fun _ _ => rfl, fun i hi => by omega, fun i hi => by omega⟩
  | k + 1, ys, hk, h => by
    cases hz : applyTo xs l k with
    | none => rw [show applyTo xs l (k + 1) = (applyTo xs l k).bind _ from rfl, hz] at h; cases h
    | some zs =>
      obtain ⟨h1, h2, h3, h4⟩ := applyTo_facts hr hin k zs (by omega) hz
      have h5 : (if zs.getD (l.getD k d3).at_.toNat 0 = (l.getD k d3).old then some (zs.set (l.getD k d3).at_.toNat (l.getD k d3).new) else none) = some ys := by
        rw [show applyTo xs l (k + 1) = (applyTo xs l k).bind _ from rfl, hz] at h; exact h
      split at h5
      case isFalse => cases h5
      case isTrue he =>
        obtain rfl : zs.set (l.getD k d3).at_.toNat (l.getD k d3).new = ys := Option.some.inj h5
        have hk0 := right_ge hr (k := k) (by omega)
        have hk1 := hin k (by omega)
        have hlt : ∀ i, i < k → (l.getD i d3).at_ < (l.getD k d3).at_ := fun i hi => right_lt hr (by omega) hi
        have hset : ∀ j, (zs.set (l.getD k d3).at_.toNat (l.getD k d3).new).getD j 0 = if j = (l.getD k d3).at_.toNat then (l.getD k d3).new else zs.getD j 0 := fun j => by
          rw [List.getD_eq_getElem?_getD, List.getElem?_set]
          by_cases hj : (l.getD k d3).at_.toNat = j
          · rw [if_pos hj, if_pos hj.symm, if_pos (by omega)]; rfl
          · rw [if_neg hj, if_neg (fun h => hj h.symm), List.getD_eq_getElem?_getD]
        refine ⟨by rw [List.length_set]; exact h1, fun j hj => ?_, fun i hi => ?_, fun i hi => ?_⟩
        · rw [hset, if_neg (fun e => hj k (by omega) (by omega))]
          exact h2 j fun i hi => hj i (by omega)
        · rw [hset]
          by_cases hik : i = k
          · subst hik; rw [if_pos rfl]
          · have := hlt i (by omega)
            have h0 := right_ge hr (k := i) (by omega)
            rw [if_neg (by omega)]
            exact h3 i (by omega)
        · by_cases hik : i = k
          · subst hik
            rw [← he]
            exact (h2 _ fun j hj => by have := hlt j hj; omega).symm
          · exact h4 i (by omega)
theorem applyTo_some {xs : List Int} {l : List Chg3} (hr : right l = true) (hin : ∀ i, i < l.length → (l.getD i d3).at_ < xs.length) : ∀ k, k ≤ l.length → (∀ i, i < k → xs.getD (l.getD i d3).at_.toNat 0 = (l.getD i d3).old) → ∃ ys, applyTo xs l k = some ys
  | 0, _, _ => ⟨xs, rfl⟩
  | k + 1, hk, h => by
    obtain ⟨zs, hz⟩ := applyTo_some hr hin k (by omega) fun i hi => h i (by omega)
    obtain ⟨_, h2, _, _⟩ := applyTo_facts hr hin k zs (by omega) hz
    have h0 := right_ge hr (k := k) (by omega)
    refine ⟨_, applyTo_succ hz ?_⟩
    rw [h2 _ fun i hi => by have := right_lt hr (j := i) (k := k) (by omega) hi; omega]
    exact h k (by omega)
/-- the words behind a patch, by place -/
def outTo (xs : List Int) (l : List Chg3) (ys : List Int) (i : Nat) : Prop :=
  ys.length = i ∧ (∀ j, j < i → (∀ k, k < l.length → (l.getD k d3).at_ ≠ j) → ys.getD j 0 = xs.getD j 0) ∧ (∀ k, k < l.length → (l.getD k d3).at_ < i → ys.getD (l.getD k d3).at_.toNat 0 = (l.getD k d3).new ∧ xs.getD (l.getD k d3).at_.toNat 0 = (l.getD k d3).old)
theorem outTo_zero {xs : List Int} {l : List Chg3} (hr : right l = true) : outTo xs l [] 0 :=
  ⟨rfl, fun j hj => by omega, fun k hk h => by have := right_ge hr hk; omega⟩
theorem getD_snoc_lt {ys : List Int} {v : Int} {j : Nat} (h : j < ys.length) : (ys ++ [v]).getD j 0 = ys.getD j 0 := by
  rw [List.getD_eq_getElem?_getD, List.getElem?_append_left h, List.getD_eq_getElem?_getD]
theorem getD_snoc_eq {ys : List Int} {v : Int} : (ys ++ [v]).getD ys.length 0 = v := by
  rw [List.getD_eq_getElem?_getD, List.getElem?_append_right (Nat.le_refl _)]; simp
theorem outTo_old {xs : List Int} {l : List Chg3} {ys : List Int} {i : Nat} (hr : right l = true) (h : outTo xs l ys i) (hn : ∀ k, k < l.length → (l.getD k d3).at_ ≠ i) : outTo xs l (ys ++ [xs.getD i 0]) (i + 1) := by
  obtain ⟨h1, h2, h3⟩ := h
  refine ⟨by rw [List.length_append, h1]; rfl, fun j hj hk => ?_, fun k hk hk2 => ?_⟩
  · by_cases hji : j = i
    · have e := getD_snoc_eq (ys := ys) (v := xs.getD i 0)
      rw [h1] at e; rw [hji]; exact e
    · rw [getD_snoc_lt (by omega)]; exact h2 j (by omega) hk
  · have := hn k hk; have h0 := right_ge hr hk
    rw [getD_snoc_lt (by omega)]; exact h3 k hk (by omega)
theorem outTo_new {xs : List Int} {l : List Chg3} {ys : List Int} {i k : Nat} (hr : right l = true) (h : outTo xs l ys i) (hk : k < l.length) (ha : (l.getD k d3).at_ = i) (ho : (l.getD k d3).old = xs.getD i 0) : outTo xs l (ys ++ [(l.getD k d3).new]) (i + 1) := by
  obtain ⟨h1, h2, h3⟩ := h
  have huniq : ∀ m, m < l.length → (l.getD m d3).at_ = i → m = k := fun m hm e => by
    rcases Nat.lt_trichotomy m k with hl | hl | hl
    · have := right_lt hr hk hl; omega
    · exact hl
    · have := right_lt hr hm hl; omega
  refine ⟨by rw [List.length_append, h1]; rfl, fun j hj hn => ?_, fun m hm hm2 => ?_⟩
  · have : j ≠ i := fun e => hn k hk (by rw [ha, e])
    rw [getD_snoc_lt (by omega)]; exact h2 j (by omega) hn
  · have h0 := right_ge hr hm
    by_cases hmi : (l.getD m d3).at_ = i
    · obtain rfl := huniq m hm hmi
      rw [hmi, Int.toNat_natCast]
      refine ⟨?_, ho.symm⟩
      have e := getD_snoc_eq (ys := ys) (v := (l.getD m d3).new)
      rw [h1] at e; exact e
    · rw [getD_snoc_lt (by omega)]; exact h3 m hm (by omega)
theorem list_ext_getD {xs ys : List Int} (hl : xs.length = ys.length) (h : ∀ j, j < xs.length → xs.getD j 0 = ys.getD j 0) : xs = ys := eq_of_upTo hl rfl h
theorem apply_out {xs : List Int} {l : List Chg3} {ys : List Int} {i : Nat} (hr : right l = true) (hin : ∀ i, i < l.length → (l.getD i d3).at_ < xs.length) (h : outTo xs l ys i) (hi : i = xs.length) : apply xs l = (0, ys) := by
  subst hi
  obtain ⟨h1, h2, h3⟩ := h
  obtain ⟨zs, hz⟩ := applyTo_some hr hin l.length (Nat.le_refl _) fun i hi => (h3 i hi (hin i hi)).2
  obtain ⟨g1, g2, g3, _⟩ := applyTo_facts hr hin l.length zs (Nat.le_refl _) hz
  have : zs = ys := by
    refine list_ext_getD (by omega) fun j hj => ?_
    by_cases hk : ∀ k, k < l.length → (l.getD k d3).at_ ≠ j
    · rw [g2 j hk, h2 j (by omega) hk]
    · simp only [Classical.not_forall, Decidable.not_not] at hk
      obtain ⟨k, hk, e⟩ := hk
      have e2 : j = (l.getD k d3).at_.toNat := by omega
      rw [e2, g3 k hk, (h3 k hk (by omega)).1]
  subst this
  exact apply_0 hr (fun ⟨h5, h6⟩ => by have := hin (l.length - 1) (by omega); omega) hz
theorem apply_5' {xs : List Int} {l : List Chg3} {i : Nat} (hr : right l = true) (hi : i < l.length) (h : (l.getD i d3).at_ ≥ xs.length) : apply xs l = (5, []) :=
  apply_5 hr ⟨by omega, by have := right_le_last hr hi; omega⟩
theorem apply_9' {xs : List Int} {l : List Chg3} {i k : Nat} (hr : right l = true) (hin : ∀ i, i < l.length → (l.getD i d3).at_ < xs.length) (hk : k < l.length) (ha : (l.getD k d3).at_ = i) (ho : ¬ (l.getD k d3).old = xs.getD i 0) : apply xs l = (9, []) := by
  have hn : ¬ (0 < l.length ∧ (l.getD (l.length - 1) d3).at_ ≥ xs.length) := fun ⟨h5, h6⟩ => by have := hin (l.length - 1) (by omega); omega
  cases hz : applyTo xs l l.length with
  | none => unfold apply; rw [if_neg (by rw [hr]; simp), if_neg hn, hz]
  | some zs =>
    obtain ⟨_, _, _, h4⟩ := applyTo_facts hr hin l.length zs (Nat.le_refl _) hz
    have := h4 k hk
    rw [ha, Int.toNat_natCast] at this
    exact absurd this.symm ho

set_option maxHeartbeats 1000000 in
set_option maxRecDepth 100000 in
theorem rright_ok (a : Option Addr) (cap : Nat) (l : List Chg3) (w0 : World) (hm : l.length ≤ 9223372036854775807) (hl : RCh w0 a l) :
    K.KC Try.prog 31 #[.slice a l.length cap] w0 (fun v w' => v = .bool (right l) ∧ K.Chg K.No w0 w') := by
  refine K.KC.mk (n := 47) Try.func31 rfl rfl [.slice a l.length cap] rfl rfl ?_
  refine K.KW.seq ?_
  -- region 0 ref.go:12
  refine K.KW.region ?_
  refine K.RW.q rfl rfl (K.QR.k (v := .bool false) (by kernel_rfl)) ?_
  refine K.RW.nil ?_
  refine K.thn_normal ?_
  refine K.KW.seq ?_
  refine K.KW.seq ?_
  -- region 1 ref.go:13
  refine K.KW.region ?_
  refine K.RW.q rfl rfl (K.QR.k (v := .int .i64 0) (by kernel_rfl)) ?_
  refine K.RW.nil ?_
  refine K.thn_normal ?_
  refine K.KW.block ?_
  refine K.KW.loop (fun m F w1 => ∃ (k : Nat), m = l.length - k ∧ K.Sl F [(0, .slice a l.length cap), (3, .int .i64 ((k : Nat) : Int))] ∧ k ≤ l.length ∧ rightTo l k ∧ K.Chg K.No w0 w1) ((fun (k : Nat) => l.length - k) 0) ?_ ?_
  · -- the loop begins
    exact ⟨0, rfl, ⟨by rfl, by rfl, trivial⟩, (by omega), (rightTo_zero _), (K.Chg.refl _)⟩
  · -- a round
    intro m2 F3 w1 hI
    obtain ⟨k, rfl, sl4, p6, p7, c5⟩ := hI
    rw [← K.Sl.puts sl4]; clear sl4
    have z8 := c5.size
    refine K.KW.seq ?_
    refine K.KW.seq ?_
    -- region 2 ref.go:13
    refine K.KW.region ?_
    refine K.RW.q rfl rfl (K.QR.k (v := .int .i64 ((k : Nat) : Int)) (by kernel_rfl)) ?_
    refine K.RW.q rfl rfl (K.QR.k (v := .slice a l.length cap) (by kernel_rfl)) ?_
    refine K.RW.q rfl rfl (K.QR.len (P := Try.prog) rfl rfl Try.underlying53) ?_
    by_cases h9 : (((k : Nat) : Int) : Int) < (((l.length : Nat) : Int) : Int)
    ·  -- yes
      refine K.RW.q rfl rfl (K.QR.nice (v := .bool (decide ((((k : Nat) : Int) : Int) < (((l.length : Nat) : Int) : Int)))) (by kernel_rfl) (congrArg Value.bool (decide_eq_true h9))) ?_
      refine K.RW.nil ?_
      refine K.thn_normal ?_
      refine K.KW.ifT rfl ?_
      refine K.KW.skip ?_
      refine K.thn_normal ?_
      refine K.KW.seq ?_
      refine K.KW.block ?_
      refine K.KW.seq ?_
      -- region 4 ref.go:14
      refine K.KW.drawn (fun w => K.Chg K.No w0 w) (by kernel_rfl) ?_
      intro w10 e11 hs12
      have c14 := c5.no e11
      have z15 := c14.size
      have hS13 : (fun w => K.Chg K.No w0 w) w10 := c14
      refine K.DW.q 0 (by kernel_rfl) rfl rfl (by kernel_rfl) rfl (fun w hS => K.QR.k (v := .slice a l.length cap) (by kernel_rfl)) hS13 ?_
      refine K.DW.q 1 (by kernel_rfl) rfl rfl (by kernel_rfl) rfl (fun w hS => K.QR.k (v := .int .i64 ((k : Nat) : Int)) (by kernel_rfl)) hS13 ?_
      obtain ⟨b16, of17, rfl, _⟩ := hl.at_ (by omega)
      refine K.DW.q 2 (by kernel_rfl) rfl rfl (by kernel_rfl) rfl (fun w hS => K.QR.ix (of17 + k * 3) 3 rfl rfl rfl Try.underlying53 (by kernel_rfl) (by omega) (by simp)) hS13 ?_
      refine K.DW.q 3 (by kernel_rfl) rfl rfl (by kernel_rfl) rfl (fun w hS => K.QR.k (v := .pointer (some ⟨b16, of17 + k * 3, none⟩)) (by kernel_rfl)) hS13 ?_
      refine K.DW.q 4 (by kernel_rfl) rfl rfl (by kernel_rfl) rfl (fun w hS => K.QR.ld1 (v := .int .i64 ((l.getD k d3).at_)) rfl rfl (by kernel_rfl) (hS.cell (hl.ld k (by omega) 0 _ rfl) id)) hS13 ?_
      by_cases h18 : ((l.getD k d3).at_ : Int) < (0 : Int)
      ·  -- yes
        refine K.DW.q 5 (by kernel_rfl) rfl rfl (by kernel_rfl) rfl (fun w hS => K.QR.nice (v := .bool (decide (((l.getD k d3).at_ : Int) < (0 : Int)))) (by kernel_rfl) (congrArg Value.bool (decide_eq_true h18))) hS13 ?_
        refine K.DW.q 6 (by kernel_rfl) rfl rfl (by kernel_rfl) rfl (fun w hS => K.QR.k (v := .bool true) (by kernel_rfl)) hS13 ?_
        refine K.DW.skip 7 (by kernel_rfl) rfl rfl (by kernel_rfl) (by kernel_rfl) hS13 ?_
        refine K.DW.skip 8 (by kernel_rfl) rfl rfl (by kernel_rfl) (by kernel_rfl) hS13 ?_
        refine K.DW.skip 9 (by kernel_rfl) rfl rfl (by kernel_rfl) (by kernel_rfl) hS13 ?_
        refine K.DW.skip 10 (by kernel_rfl) rfl rfl (by kernel_rfl) (by kernel_rfl) hS13 ?_
        refine K.DW.skip 11 (by kernel_rfl) rfl rfl (by kernel_rfl) (by kernel_rfl) hS13 ?_
        refine K.DW.skip 12 (by kernel_rfl) rfl rfl (by kernel_rfl) (by kernel_rfl) hS13 ?_
        refine K.DW.skip 13 (by kernel_rfl) rfl rfl (by kernel_rfl) (by kernel_rfl) hS13 ?_
        refine K.DW.skip 14 (by kernel_rfl) rfl rfl (by kernel_rfl) (by kernel_rfl) hS13 ?_
        refine K.DW.skip 15 (by kernel_rfl) rfl rfl (by kernel_rfl) (by kernel_rfl) hS13 ?_
        refine K.DW.skip 16 (by kernel_rfl) rfl rfl (by kernel_rfl) (by kernel_rfl) hS13 ?_
        refine K.DW.skip 17 (by kernel_rfl) rfl rfl (by kernel_rfl) (by kernel_rfl) hS13 ?_
        refine K.DW.q 18 (by kernel_rfl) rfl rfl (by kernel_rfl) rfl (fun w hS => K.QR.k (v := .bool true) (by kernel_rfl)) hS13 ?_
        refine K.DW.q 19 (by kernel_rfl) rfl rfl (by kernel_rfl) rfl (fun w hS => K.QR.k (v := .bool true) (by kernel_rfl)) hS13 ?_
        refine K.DW.skip 20 (by kernel_rfl) rfl rfl (by kernel_rfl) (by kernel_rfl) hS13 ?_
        refine K.DW.skip 21 (by kernel_rfl) rfl rfl (by kernel_rfl) (by kernel_rfl) hS13 ?_
        refine K.DW.skip 22 (by kernel_rfl) rfl rfl (by kernel_rfl) (by kernel_rfl) hS13 ?_
        refine K.DW.skip 23 (by kernel_rfl) rfl rfl (by kernel_rfl) (by kernel_rfl) hS13 ?_
        refine K.DW.skip 24 (by kernel_rfl) rfl rfl (by kernel_rfl) (by kernel_rfl) hS13 ?_
        refine K.DW.skip 25 (by kernel_rfl) rfl rfl (by kernel_rfl) (by kernel_rfl) hS13 ?_
        refine K.DW.skip 26 (by kernel_rfl) rfl rfl (by kernel_rfl) (by kernel_rfl) hS13 ?_
        refine K.DW.skip 27 (by kernel_rfl) rfl rfl (by kernel_rfl) (by kernel_rfl) hS13 ?_
        refine K.DW.skip 28 (by kernel_rfl) rfl rfl (by kernel_rfl) (by kernel_rfl) hS13 ?_
        refine K.DW.skip 29 (by kernel_rfl) rfl rfl (by kernel_rfl) (by kernel_rfl) hS13 ?_
        refine K.DW.skip 30 (by kernel_rfl) rfl rfl (by kernel_rfl) (by kernel_rfl) hS13 ?_
        refine K.DW.skip 31 (by kernel_rfl) rfl rfl (by kernel_rfl) (by kernel_rfl) hS13 ?_
        refine K.DW.skip 32 (by kernel_rfl) rfl rfl (by kernel_rfl) (by kernel_rfl) hS13 ?_
        refine K.DW.skip 33 (by kernel_rfl) rfl rfl (by kernel_rfl) (by kernel_rfl) hS13 ?_
        refine K.DW.skip 34 (by kernel_rfl) rfl rfl (by kernel_rfl) (by kernel_rfl) hS13 ?_
        refine K.DW.skip 35 (by kernel_rfl) rfl rfl (by kernel_rfl) (by kernel_rfl) hS13 ?_
        refine K.DW.q 36 (by kernel_rfl) rfl rfl (by kernel_rfl) rfl (fun w hS => K.QR.k (v := .bool true) (by kernel_rfl)) hS13 ?_
        refine K.DW.done (by kernel_rfl) ?_
        refine K.thn_normal ?_
        refine K.KW.ifT rfl ?_
        refine K.KW.seq ?_
        -- region 5 ref.go:15
        refine K.KW.region ?_
        refine K.RW.q rfl rfl (K.QR.k (v := .bool false) (by kernel_rfl)) ?_
        refine K.RW.nil ?_
        refine K.thn_normal ?_
        refine K.KW.ret ?_
        refine K.blk_ret ?_
        refine K.thn_ret ?_
        refine K.thn_ret ?_
        refine K.blk_ret ?_
        refine K.thn_ret ?_
        refine ⟨.inr rfl, (.bool false), K.res1 rfl rfl, ?_⟩
        exact ⟨by first | exact right_t (by assumption) (by omega) | exact right_f (k := k) (by omega) (by unfold rightAt; omega), c14⟩
      ·  -- no
        refine K.DW.q 5 (by kernel_rfl) rfl rfl (by kernel_rfl) rfl (fun w hS => K.QR.nice (v := .bool (decide (((l.getD k d3).at_ : Int) < (0 : Int)))) (by kernel_rfl) (congrArg Value.bool (decide_eq_false h18))) hS13 ?_
        refine K.DW.q 6 (by kernel_rfl) rfl rfl (by kernel_rfl) rfl (fun w hS => K.QR.k (v := .bool false) (by kernel_rfl)) hS13 ?_
        refine K.DW.q 7 (by kernel_rfl) rfl rfl (by kernel_rfl) (by kernel_rfl) (fun w hS => K.QR.k (v := .slice (some ⟨b16, of17, none⟩) l.length cap) (by kernel_rfl)) hS13 ?_
        refine K.DW.q 8 (by kernel_rfl) rfl rfl (by kernel_rfl) (by kernel_rfl) (fun w hS => K.QR.k (v := .int .i64 ((k : Nat) : Int)) (by kernel_rfl)) hS13 ?_
        refine K.DW.q 9 (by kernel_rfl) rfl rfl (by kernel_rfl) (by kernel_rfl) (fun w hS => K.QR.ix (of17 + k * 3) 3 rfl rfl rfl Try.underlying53 (by kernel_rfl) (by omega) (by simp)) hS13 ?_
        refine K.DW.q 10 (by kernel_rfl) rfl rfl (by kernel_rfl) (by kernel_rfl) (fun w hS => K.QR.k (v := .pointer (some ⟨b16, of17 + k * 3 + 1, none⟩)) (by kernel_rfl)) hS13 ?_
        refine K.DW.q 11 (by kernel_rfl) rfl rfl (by kernel_rfl) (by kernel_rfl) (fun w hS => K.QR.ld1 (v := .int .u64 ((l.getD k d3).old)) rfl rfl (by kernel_rfl) (hS.cell (hl.ld k (by omega) 1 _ rfl) id)) hS13 ?_
        refine K.DW.q 12 (by kernel_rfl) rfl rfl (by kernel_rfl) (by kernel_rfl) (fun w hS => K.QR.k (v := .slice (some ⟨b16, of17, none⟩) l.length cap) (by kernel_rfl)) hS13 ?_
        refine K.DW.q 13 (by kernel_rfl) rfl rfl (by kernel_rfl) (by kernel_rfl) (fun w hS => K.QR.k (v := .int .i64 ((k : Nat) : Int)) (by kernel_rfl)) hS13 ?_
        refine K.DW.q 14 (by kernel_rfl) rfl rfl (by kernel_rfl) (by kernel_rfl) (fun w hS => K.QR.ix (of17 + k * 3) 3 rfl rfl rfl Try.underlying53 (by kernel_rfl) (by omega) (by simp)) hS13 ?_
        refine K.DW.q 15 (by kernel_rfl) rfl rfl (by kernel_rfl) (by kernel_rfl) (fun w hS => K.QR.k (v := .pointer (some ⟨b16, of17 + k * 3 + 2, none⟩)) (by kernel_rfl)) hS13 ?_
        refine K.DW.q 16 (by kernel_rfl) rfl rfl (by kernel_rfl) (by kernel_rfl) (fun w hS => K.QR.ld1 (v := .int .u64 ((l.getD k d3).new)) rfl rfl (by kernel_rfl) (hS.cell (hl.ld k (by omega) 2 _ rfl) id)) hS13 ?_
        by_cases h19 : ((l.getD k d3).old : Int) = ((l.getD k d3).new : Int)
        ·  -- yes
          refine K.DW.q 17 (by kernel_rfl) rfl rfl (by kernel_rfl) (by kernel_rfl) (fun w hS => K.QR.nice (v := .bool (((l.getD k d3).old : Int) == ((l.getD k d3).new : Int))) (by kernel_rfl) (congrArg Value.bool (beq_iff_eq.2 h19))) hS13 ?_
          refine K.DW.q 18 (by kernel_rfl) rfl rfl (by kernel_rfl) rfl (fun w hS => K.QR.k (v := .bool true) (by kernel_rfl)) hS13 ?_
          refine K.DW.q 19 (by kernel_rfl) rfl rfl (by kernel_rfl) rfl (fun w hS => K.QR.k (v := .bool true) (by kernel_rfl)) hS13 ?_
          refine K.DW.skip 20 (by kernel_rfl) rfl rfl (by kernel_rfl) (by kernel_rfl) hS13 ?_
          refine K.DW.skip 21 (by kernel_rfl) rfl rfl (by kernel_rfl) (by kernel_rfl) hS13 ?_
          refine K.DW.skip 22 (by kernel_rfl) rfl rfl (by kernel_rfl) (by kernel_rfl) hS13 ?_
          refine K.DW.skip 23 (by kernel_rfl) rfl rfl (by kernel_rfl) (by kernel_rfl) hS13 ?_
          refine K.DW.skip 24 (by kernel_rfl) rfl rfl (by kernel_rfl) (by kernel_rfl) hS13 ?_
          refine K.DW.skip 25 (by kernel_rfl) rfl rfl (by kernel_rfl) (by kernel_rfl) hS13 ?_
          refine K.DW.skip 26 (by kernel_rfl) rfl rfl (by kernel_rfl) (by kernel_rfl) hS13 ?_
          refine K.DW.skip 27 (by kernel_rfl) rfl rfl (by kernel_rfl) (by kernel_rfl) hS13 ?_
          refine K.DW.skip 28 (by kernel_rfl) rfl rfl (by kernel_rfl) (by kernel_rfl) hS13 ?_
          refine K.DW.skip 29 (by kernel_rfl) rfl rfl (by kernel_rfl) (by kernel_rfl) hS13 ?_
          refine K.DW.skip 30 (by kernel_rfl) rfl rfl (by kernel_rfl) (by kernel_rfl) hS13 ?_
          refine K.DW.skip 31 (by kernel_rfl) rfl rfl (by kernel_rfl) (by kernel_rfl) hS13 ?_
          refine K.DW.skip 32 (by kernel_rfl) rfl rfl (by kernel_rfl) (by kernel_rfl) hS13 ?_
          refine K.DW.skip 33 (by kernel_rfl) rfl rfl (by kernel_rfl) (by kernel_rfl) hS13 ?_
          refine K.DW.skip 34 (by kernel_rfl) rfl rfl (by kernel_rfl) (by kernel_rfl) hS13 ?_
          refine K.DW.skip 35 (by kernel_rfl) rfl rfl (by kernel_rfl) (by kernel_rfl) hS13 ?_
          refine K.DW.q 36 (by kernel_rfl) rfl rfl (by kernel_rfl) rfl (fun w hS => K.QR.k (v := .bool true) (by kernel_rfl)) hS13 ?_
          refine K.DW.done (by kernel_rfl) ?_
          refine K.thn_normal ?_
          refine K.KW.ifT rfl ?_
          refine K.KW.seq ?_
          -- region 5 ref.go:15
          refine K.KW.region ?_
          refine K.RW.q rfl rfl (K.QR.k (v := .bool false) (by kernel_rfl)) ?_
          refine K.RW.nil ?_
          refine K.thn_normal ?_
          refine K.KW.ret ?_
          refine K.blk_ret ?_
          refine K.thn_ret ?_
          refine K.thn_ret ?_
          refine K.blk_ret ?_
          refine K.thn_ret ?_
          refine ⟨.inr rfl, (.bool false), K.res1 rfl rfl, ?_⟩
          exact ⟨by first | exact right_t (by assumption) (by omega) | exact right_f (k := k) (by omega) (by unfold rightAt; omega), c14⟩
        ·  -- no
          refine K.DW.q 17 (by kernel_rfl) rfl rfl (by kernel_rfl) (by kernel_rfl) (fun w hS => K.QR.nice (v := .bool (((l.getD k d3).old : Int) == ((l.getD k d3).new : Int))) (by kernel_rfl) (congrArg Value.bool (beq_eq_false_iff_ne.2 h19))) hS13 ?_
          refine K.DW.q 18 (by kernel_rfl) rfl rfl (by kernel_rfl) rfl (fun w hS => K.QR.k (v := .bool false) (by kernel_rfl)) hS13 ?_
          refine K.DW.q 19 (by kernel_rfl) rfl rfl (by kernel_rfl) rfl (fun w hS => K.QR.k (v := .bool false) (by kernel_rfl)) hS13 ?_
          refine K.DW.q 20 (by kernel_rfl) rfl rfl (by kernel_rfl) (by kernel_rfl) (fun w hS => K.QR.k (v := .int .i64 ((k : Nat) : Int)) (by kernel_rfl)) hS13 ?_
          by_cases h20 : (((k : Nat) : Int) : Int) > (0 : Int)
          ·  -- yes
            refine K.DW.q 21 (by kernel_rfl) rfl rfl (by kernel_rfl) (by kernel_rfl) (fun w hS => K.QR.nice (v := .bool (decide ((((k : Nat) : Int) : Int) > (0 : Int)))) (by kernel_rfl) (congrArg Value.bool (decide_eq_true h20))) hS13 ?_
            refine K.DW.q 22 (by kernel_rfl) rfl rfl (by kernel_rfl) (by kernel_rfl) (fun w hS => K.QR.k (v := .bool true) (by kernel_rfl)) hS13 ?_
            refine K.DW.q 23 (by kernel_rfl) rfl rfl (by kernel_rfl) (by kernel_rfl) (fun w hS => K.QR.k (v := .slice (some ⟨b16, of17, none⟩) l.length cap) (by kernel_rfl)) hS13 ?_
            refine K.DW.q 24 (by kernel_rfl) rfl rfl (by kernel_rfl) (by kernel_rfl) (fun w hS => K.QR.k (v := .int .i64 ((k : Nat) : Int)) (by kernel_rfl)) hS13 ?_
            refine K.DW.q 25 (by kernel_rfl) rfl rfl (by kernel_rfl) (by kernel_rfl) (fun w hS => K.QR.n64 ((((k : Nat) : Int) : Int) - (1 : Int)) ((k - 1 : Nat) : Int) (by kernel_rfl) (by omega)) hS13 ?_
            refine K.DW.q 26 (by kernel_rfl) rfl rfl (by kernel_rfl) (by kernel_rfl) (fun w hS => K.QR.ix (of17 + (k - 1) * 3) 3 rfl rfl rfl Try.underlying53 (by kernel_rfl) (by omega) (by simp)) hS13 ?_
            refine K.DW.q 27 (by kernel_rfl) rfl rfl (by kernel_rfl) (by kernel_rfl) (fun w hS => K.QR.k (v := .pointer (some ⟨b16, of17 + (k - 1) * 3, none⟩)) (by kernel_rfl)) hS13 ?_
            refine K.DW.q 28 (by kernel_rfl) rfl rfl (by kernel_rfl) (by kernel_rfl) (fun w hS => K.QR.ld1 (v := .int .i64 ((l.getD (k - 1) d3).at_)) rfl rfl (by kernel_rfl) (hS.cell (hl.ld (k - 1) (by omega) 0 _ rfl) id)) hS13 ?_
            refine K.DW.q 29 (by kernel_rfl) rfl rfl (by kernel_rfl) (by kernel_rfl) (fun w hS => K.QR.k (v := .slice (some ⟨b16, of17, none⟩) l.length cap) (by kernel_rfl)) hS13 ?_
            refine K.DW.q 30 (by kernel_rfl) rfl rfl (by kernel_rfl) (by kernel_rfl) (fun w hS => K.QR.k (v := .int .i64 ((k : Nat) : Int)) (by kernel_rfl)) hS13 ?_
            refine K.DW.q 31 (by kernel_rfl) rfl rfl (by kernel_rfl) (by kernel_rfl) (fun w hS => K.QR.ix (of17 + k * 3) 3 rfl rfl rfl Try.underlying53 (by kernel_rfl) (by omega) (by simp)) hS13 ?_
            refine K.DW.q 32 (by kernel_rfl) rfl rfl (by kernel_rfl) (by kernel_rfl) (fun w hS => K.QR.k (v := .pointer (some ⟨b16, of17 + k * 3, none⟩)) (by kernel_rfl)) hS13 ?_
            refine K.DW.q 33 (by kernel_rfl) rfl rfl (by kernel_rfl) (by kernel_rfl) (fun w hS => K.QR.ld1 (v := .int .i64 ((l.getD k d3).at_)) rfl rfl (by kernel_rfl) (hS.cell (hl.ld k (by omega) 0 _ rfl) id)) hS13 ?_
            by_cases h21 : ((l.getD (k - 1) d3).at_ : Int) ≥ ((l.getD k d3).at_ : Int)
            ·  -- yes
              refine K.DW.q 34 (by kernel_rfl) rfl rfl (by kernel_rfl) (by kernel_rfl) (fun w hS => K.QR.nice (v := .bool (decide (((l.getD (k - 1) d3).at_ : Int) ≥ ((l.getD k d3).at_ : Int)))) (by kernel_rfl) (congrArg Value.bool (decide_eq_true h21))) hS13 ?_
              refine K.DW.q 35 (by kernel_rfl) rfl rfl (by kernel_rfl) (by kernel_rfl) (fun w hS => K.QR.k (v := .bool true) (by kernel_rfl)) hS13 ?_
              refine K.DW.q 36 (by kernel_rfl) rfl rfl (by kernel_rfl) rfl (fun w hS => K.QR.k (v := .bool true) (by kernel_rfl)) hS13 ?_
              refine K.DW.done (by kernel_rfl) ?_
              refine K.thn_normal ?_
              refine K.KW.ifT rfl ?_
              refine K.KW.seq ?_
              -- region 5 ref.go:15
              refine K.KW.region ?_
              refine K.RW.q rfl rfl (K.QR.k (v := .bool false) (by kernel_rfl)) ?_
              refine K.RW.nil ?_
              refine K.thn_normal ?_
              refine K.KW.ret ?_
              refine K.blk_ret ?_
              refine K.thn_ret ?_
              refine K.thn_ret ?_
              refine K.blk_ret ?_
              refine K.thn_ret ?_
              refine ⟨.inr rfl, (.bool false), K.res1 rfl rfl, ?_⟩
              exact ⟨by first | exact right_t (by assumption) (by omega) | exact right_f (k := k) (by omega) (by unfold rightAt; omega), c14⟩
            ·  -- no
              refine K.DW.q 34 (by kernel_rfl) rfl rfl (by kernel_rfl) (by kernel_rfl) (fun w hS => K.QR.nice (v := .bool (decide (((l.getD (k - 1) d3).at_ : Int) ≥ ((l.getD k d3).at_ : Int)))) (by kernel_rfl) (congrArg Value.bool (decide_eq_false h21))) hS13 ?_
              refine K.DW.q 35 (by kernel_rfl) rfl rfl (by kernel_rfl) (by kernel_rfl) (fun w hS => K.QR.k (v := .bool false) (by kernel_rfl)) hS13 ?_
              refine K.DW.q 36 (by kernel_rfl) rfl rfl (by kernel_rfl) rfl (fun w hS => K.QR.k (v := .bool false) (by kernel_rfl)) hS13 ?_
              refine K.DW.done (by kernel_rfl) ?_
              refine K.thn_normal ?_
              refine K.KW.ifF rfl ?_
              refine K.KW.skip ?_
              refine K.blk_normal ?_
              refine K.thn_normal ?_
              -- region 3 ref.go:13
              refine K.KW.region ?_
              refine K.RW.q rfl rfl (K.QR.k (v := .int .i64 ((k : Nat) : Int)) (by kernel_rfl)) ?_
              refine K.RW.q rfl rfl (K.QR.n64 ((((k : Nat) : Int) : Int) + (1 : Int)) ((k + 1 : Nat) : Int) (by kernel_rfl) (by omega)) ?_
              refine K.RW.q rfl rfl (K.QR.k (v := .int .i64 ((k + 1 : Nat) : Int)) (by kernel_rfl)) ?_
              refine K.RW.nil ?_
              refine K.thn_normal ?_
              refine ⟨_, ?_, k + 1, rfl, ⟨by rfl, by rfl, trivial⟩, (by omega), (rightTo_succ (by assumption) (by unfold rightAt; omega)), c14⟩
              omega
          ·  -- no
            refine K.DW.q 21 (by kernel_rfl) rfl rfl (by kernel_rfl) (by kernel_rfl) (fun w hS => K.QR.nice (v := .bool (decide ((((k : Nat) : Int) : Int) > (0 : Int)))) (by kernel_rfl) (congrArg Value.bool (decide_eq_false h20))) hS13 ?_
            refine K.DW.q 22 (by kernel_rfl) rfl rfl (by kernel_rfl) (by kernel_rfl) (fun w hS => K.QR.k (v := .bool false) (by kernel_rfl)) hS13 ?_
            refine K.DW.skip 23 (by kernel_rfl) rfl rfl (by kernel_rfl) (by kernel_rfl) hS13 ?_
            refine K.DW.skip 24 (by kernel_rfl) rfl rfl (by kernel_rfl) (by kernel_rfl) hS13 ?_
            refine K.DW.skip 25 (by kernel_rfl) rfl rfl (by kernel_rfl) (by kernel_rfl) hS13 ?_
            refine K.DW.skip 26 (by kernel_rfl) rfl rfl (by kernel_rfl) (by kernel_rfl) hS13 ?_
            refine K.DW.skip 27 (by kernel_rfl) rfl rfl (by kernel_rfl) (by kernel_rfl) hS13 ?_
            refine K.DW.skip 28 (by kernel_rfl) rfl rfl (by kernel_rfl) (by kernel_rfl) hS13 ?_
            refine K.DW.skip 29 (by kernel_rfl) rfl rfl (by kernel_rfl) (by kernel_rfl) hS13 ?_
            refine K.DW.skip 30 (by kernel_rfl) rfl rfl (by kernel_rfl) (by kernel_rfl) hS13 ?_
            refine K.DW.skip 31 (by kernel_rfl) rfl rfl (by kernel_rfl) (by kernel_rfl) hS13 ?_
            refine K.DW.skip 32 (by kernel_rfl) rfl rfl (by kernel_rfl) (by kernel_rfl) hS13 ?_
            refine K.DW.skip 33 (by kernel_rfl) rfl rfl (by kernel_rfl) (by kernel_rfl) hS13 ?_
            refine K.DW.skip 34 (by kernel_rfl) rfl rfl (by kernel_rfl) (by kernel_rfl) hS13 ?_
            refine K.DW.q 35 (by kernel_rfl) rfl rfl (by kernel_rfl) (by kernel_rfl) (fun w hS => K.QR.k (v := .bool false) (by kernel_rfl)) hS13 ?_
            refine K.DW.q 36 (by kernel_rfl) rfl rfl (by kernel_rfl) rfl (fun w hS => K.QR.k (v := .bool false) (by kernel_rfl)) hS13 ?_
            refine K.DW.done (by kernel_rfl) ?_
            refine K.thn_normal ?_
            refine K.KW.ifF rfl ?_
            refine K.KW.skip ?_
            refine K.blk_normal ?_
            refine K.thn_normal ?_
            -- region 3 ref.go:13
            refine K.KW.region ?_
            refine K.RW.q rfl rfl (K.QR.k (v := .int .i64 ((k : Nat) : Int)) (by kernel_rfl)) ?_
            refine K.RW.q rfl rfl (K.QR.n64 ((((k : Nat) : Int) : Int) + (1 : Int)) ((k + 1 : Nat) : Int) (by kernel_rfl) (by omega)) ?_
            refine K.RW.q rfl rfl (K.QR.k (v := .int .i64 ((k + 1 : Nat) : Int)) (by kernel_rfl)) ?_
            refine K.RW.nil ?_
            refine K.thn_normal ?_
            refine ⟨_, ?_, k + 1, rfl, ⟨by rfl, by rfl, trivial⟩, (by omega), (rightTo_succ (by assumption) (by unfold rightAt; omega)), c14⟩
            omega
    ·  -- no
      refine K.RW.q rfl rfl (K.QR.nice (v := .bool (decide ((((k : Nat) : Int) : Int) < (((l.length : Nat) : Int) : Int)))) (by kernel_rfl) (congrArg Value.bool (decide_eq_false h9))) ?_
      refine K.RW.nil ?_
      refine K.thn_normal ?_
      refine K.KW.ifF rfl ?_
      refine K.KW.exit ?_
      refine K.thn_exit ?_
      refine K.thn_exit ?_
      refine K.blk_hit ?_
      refine K.thn_normal ?_
      refine K.KW.seq ?_
      -- region 6 ref.go:18
      refine K.KW.region ?_
      refine K.RW.q rfl rfl (K.QR.k (v := .bool true) (by kernel_rfl)) ?_
      refine K.RW.nil ?_
      refine K.thn_normal ?_
      refine K.KW.ret ?_
      refine ⟨.inr rfl, (.bool true), K.res1 rfl rfl, ?_⟩
      exact ⟨by first | exact right_t (by assumption) (by omega) | exact right_f (k := k) (by omega) (by unfold rightAt; omega), c5⟩

set_option maxHeartbeats 1000000 in
set_option maxRecDepth 100000 in
theorem as_ok (a : Option Addr) (cap : Nat) (l : List Chg3) (w0 : World) (hm : l.length * 24 ≤ 140737488351232) (hl : RCh w0 a l) :
    K.KC Try.prog 30 #[.slice a l.length cap] w0 (fun v w' => ∃ r m c, v = .slice r m c ∧ K.Chg K.No w0 w' ∧ K.Own w' w0.heap.size 97 3 r m c ((l).flatMap chgC) ∧ l.length = m) := by
  refine K.KC.mk (n := 19) Try.func30 rfl rfl [.slice a l.length cap] rfl rfl ?_
  refine K.KW.seq ?_
  -- region 0 law.go:19
  refine K.KW.region ?_
  refine K.RW.q rfl rfl (K.QR.k (v := .slice none 0 0) (by kernel_rfl)) ?_
  refine K.RW.nil ?_
  refine K.thn_normal ?_
  refine K.KW.seq ?_
  -- region 1 law.go:20
  refine K.KW.region ?_
  refine K.RW.q rfl rfl (K.QR.k (v := .slice none 0 0) (by kernel_rfl)) ?_
  refine K.RW.nil ?_
  refine K.thn_normal ?_
  refine K.KW.seq ?_
  refine K.KW.seq ?_
  -- region 2 law.go:21
  refine K.KW.region ?_
  refine K.RW.q rfl rfl (K.QR.k (v := .int .i64 0) (by kernel_rfl)) ?_
  refine K.RW.nil ?_
  refine K.thn_normal ?_
  refine K.KW.block ?_
  refine K.KW.loop (fun m F w1 => ∃ (k : Nat) (r : Option Addr) (m1 : Nat) (c1 : Nat), m = l.length - k ∧ K.Sl F [(0, .slice a l.length cap), (2, .slice none 0 0), (3, .slice r m1 c1), (4, .int .i64 ((k : Nat) : Int))] ∧ k ≤ l.length ∧ (l.take k).length = m1 ∧ m1 = k ∧ K.Chg K.No w0 w1 ∧ K.Own w1 w0.heap.size 97 3 r m1 c1 ((l.take k).flatMap chgC)) ((fun (k : Nat) (r : Option Addr) (m1 : Nat) (c1 : Nat) => l.length - k) 0 none 0 0) ?_ ?_
  · -- the loop begins
    exact ⟨0, none, 0, 0, rfl, ⟨by rfl, by rfl, by rfl, by rfl, trivial⟩, (by omega), (by simp), (by omega), (K.Chg.refl _), (by simpa using K.Own.nil _ _ _ _)⟩
  · -- a round
    intro m2 F3 w1 hI
    obtain ⟨k, r, m1, c1, rfl, sl4, p6, p7, p8, c5, f9⟩ := hI
    rw [← K.Sl.puts sl4]; clear sl4
    have z10 := c5.size
    refine K.KW.seq ?_
    refine K.KW.seq ?_
    -- region 3 law.go:21
    refine K.KW.region ?_
    refine K.RW.q rfl rfl (K.QR.k (v := .int .i64 ((k : Nat) : Int)) (by kernel_rfl)) ?_
    refine K.RW.q rfl rfl (K.QR.k (v := .slice a l.length cap) (by kernel_rfl)) ?_
    refine K.RW.q rfl rfl (K.QR.len (P := Try.prog) rfl rfl Try.underlying42) ?_
    by_cases h11 : (((k : Nat) : Int) : Int) < (((l.length : Nat) : Int) : Int)
    ·  -- yes
      refine K.RW.q rfl rfl (K.QR.nice (v := .bool (decide ((((k : Nat) : Int) : Int) < (((l.length : Nat) : Int) : Int)))) (by kernel_rfl) (congrArg Value.bool (decide_eq_true h11))) ?_
      refine K.RW.nil ?_
      refine K.thn_normal ?_
      refine K.KW.ifT rfl ?_
      refine K.KW.skip ?_
      refine K.thn_normal ?_
      refine K.KW.seq ?_
      refine K.KW.block ?_
      -- region 5 law.go:22
      refine K.KW.region ?_
      refine K.RW.q rfl rfl (K.QR.k (v := .slice r m1 c1) (by kernel_rfl)) ?_
      refine K.RW.q rfl rfl (K.QR.k (v := .slice a l.length cap) (by kernel_rfl)) ?_
      refine K.RW.q rfl rfl (K.QR.k (v := .int .i64 ((k : Nat) : Int)) (by kernel_rfl)) ?_
      obtain ⟨b12, of13, rfl, _⟩ := hl.at_ (by omega)
      refine K.RW.q rfl rfl (K.QR.ix (of13 + k * 3) 3 rfl rfl rfl Try.underlying42 (by kernel_rfl) (by omega) (by simp)) ?_
      refine K.RW.q rfl rfl (K.QR.ldN [.int .i64 ((l.getD k d3).at_), .int .u64 ((l.getD k d3).old), .int .u64 ((l.getD k d3).new)] rfl rfl (by kernel_rfl) (by kernel_rfl) (K.cells (K.cl (c5.cell (hl.ld k (by omega) 0 _ rfl) id) (K.cl (c5.cell (hl.ld k (by omega) 1 _ rfl) id) (K.cl (c5.cell (hl.ld k (by omega) 2 _ rfl) id) K.cl0))))) ?_
      refine K.RW.l rfl (K.OW.bs rfl [(0, .agg #[.int .i64 ((l.getD k d3).at_), .int .u64 ((l.getD k d3).old), .int .u64 ((l.getD k d3).new)])] [.int .i64 ((l.getD k d3).at_), .int .u64 ((l.getD k d3).old), .int .u64 ((l.getD k d3).new)] rfl rfl (fun w => K.bs_run (P := Try.prog) w 53 97 1 _ _ Try.underlying53 (by kernel_rfl)) ?_) 
      intro w14 r15 hr16 e17 hs18 b19
      have c20 := c5.no e17
      have z21 := c20.size
      have f22 := f9.no e17
      have ap23 : ∀ k, K.Ow r k → ¬ k = r15 := fun k hk he => absurd (f9.lt k hk) (by omega)
      refine K.RW.l rfl (K.OW.app (P := Try.prog) (xs := ((l.take k)).flatMap chgC) (z := .agg #[.int .i64 0, .int .u64 0, .int .u64 0]) (size := 3) (bytes := 24) rfl [.int .i64 ((l.getD k d3).at_), .int .u64 ((l.getD k d3).old), .int .u64 ((l.getD k d3).new)] rfl rfl f22 rfl Try.underlying53 (by kernel_rfl) rfl (by decide) (by rfl) (fun j u hj => (by rw [Nat.zero_add]; exact b19.cell hj)) (K.one_cells (by rfl)) (by unfold maxLen; omega) (by omega) (by omega) ?_) 
      intro a24 cap25 w26 e27 o28
      have c29 := c20.trans e27 (fun i hi hy => absurd (f22.base_le i hy) (by omega))
      have z30 := c29.size
      have o28t := K.Own.snoc (c := chgC) (L := (l.take k)) (⟨(l.getD k d3).at_, (l.getD k d3).old, (l.getD k d3).new⟩ : Chg3) rfl o28
      have ln31 : (((l.take k) ++ [(⟨(l.getD k d3).at_, (l.getD k d3).old, (l.getD k d3).new⟩ : Chg3)])).length = m1 + 1 := by rw [List.length_append, p7]; rfl
      refine K.RW.q rfl rfl (K.QR.k (v := .slice a24 (m1 + 1) cap25) (by kernel_rfl)) ?_
      refine K.RW.nil ?_
      refine K.blk_normal ?_
      refine K.thn_normal ?_
      -- region 4 law.go:21
      refine K.KW.region ?_
      refine K.RW.q rfl rfl (K.QR.k (v := .int .i64 ((k : Nat) : Int)) (by kernel_rfl)) ?_
      refine K.RW.q rfl rfl (K.QR.n64 ((((k : Nat) : Int) : Int) + (1 : Int)) ((k + 1 : Nat) : Int) (by kernel_rfl) (by omega)) ?_
      refine K.RW.q rfl rfl (K.QR.k (v := .int .i64 ((k + 1 : Nat) : Int)) (by kernel_rfl)) ?_
      refine K.RW.nil ?_
      refine K.thn_normal ?_
      refine ⟨_, ?_, k + 1, a24, m1 + 1, cap25, rfl, ⟨by rfl, by rfl, by rfl, by rfl, trivial⟩, (by omega), (by rw [List.length_take]; omega), (by omega), c29, (by rw [take_snoc_d d3 (by omega)]; exact o28t)⟩
      omega
    ·  -- no
      refine K.RW.q rfl rfl (K.QR.nice (v := .bool (decide ((((k : Nat) : Int) : Int) < (((l.length : Nat) : Int) : Int)))) (by kernel_rfl) (congrArg Value.bool (decide_eq_false h11))) ?_
      refine K.RW.nil ?_
      refine K.thn_normal ?_
      refine K.KW.ifF rfl ?_
      refine K.KW.exit ?_
      refine K.thn_exit ?_
      refine K.thn_exit ?_
      refine K.blk_hit ?_
      refine K.thn_normal ?_
      refine K.KW.seq ?_
      -- region 6 law.go:24
      refine K.KW.region ?_
      refine K.RW.q rfl rfl (K.QR.k (v := .slice r m1 c1) (by kernel_rfl)) ?_
      refine K.RW.q rfl rfl (K.QR.k (v := .slice r m1 c1) (by kernel_rfl)) ?_
      refine K.RW.nil ?_
      refine K.thn_normal ?_
      refine K.KW.ret ?_
      refine ⟨.inr rfl, (.slice r m1 c1), K.res1 rfl rfl, ?_⟩
      obtain rfl : k = l.length := by omega
      rw [List.take_length] at *
      exact ⟨_, _, _, rfl, c5, f9, by omega⟩

set_option maxHeartbeats 1000000 in
set_option maxRecDepth 100000 in
theorem rfind_ok (a : Option Addr) (cap : Nat) (l : List Chg3) (at_ : Int) (w0 : World) (hm : l.length ≤ 9223372036854775807) (hl : RCh w0 a l) :
    K.KC Try.prog 56 #[.slice a l.length cap, .int .i64 at_] w0 (fun v w' => K.Chg K.No w0 w' ∧ ((∃ k : Nat, v = .int .i64 k ∧ k < l.length ∧ (l.getD k d3).at_ = at_) ∨ (v = .int .i64 (-1) ∧ ∀ i, i < l.length → (l.getD i d3).at_ ≠ at_))) := by
  refine K.KC.mk (n := 20) Try.func56 rfl rfl [.slice a l.length cap, .int .i64 at_] rfl rfl ?_
  refine K.KW.seq ?_
  -- region 0 ref.go:22
  refine K.KW.region ?_
  refine K.RW.q rfl rfl (K.QR.k (v := .int .i64 0) (by kernel_rfl)) ?_
  refine K.RW.nil ?_
  refine K.thn_normal ?_
  refine K.KW.seq ?_
  refine K.KW.seq ?_
  -- region 1 ref.go:23
  refine K.KW.region ?_
  refine K.RW.q rfl rfl (K.QR.k (v := .int .i64 0) (by kernel_rfl)) ?_
  refine K.RW.nil ?_
  refine K.thn_normal ?_
  refine K.KW.block ?_
  refine K.KW.loop (fun m F w1 => ∃ (k : Nat), m = l.length - k ∧ K.Sl F [(0, .slice a l.length cap), (1, .int .i64 at_), (5, .int .i64 ((k : Nat) : Int))] ∧ k ≤ l.length ∧ (∀ i, i < k → (l.getD i d3).at_ ≠ at_) ∧ K.Chg K.No w0 w1) ((fun (k : Nat) => l.length - k) 0) ?_ ?_
  · -- the loop begins
    exact ⟨0, rfl, ⟨by rfl, by rfl, by rfl, trivial⟩, (by omega), (fun i h => by omega), (K.Chg.refl _)⟩
  · -- a round
    intro m2 F3 w1 hI
    obtain ⟨k, rfl, sl4, p6, p7, c5⟩ := hI
    rw [← K.Sl.puts sl4]; clear sl4
    have z8 := c5.size
    refine K.KW.seq ?_
    refine K.KW.seq ?_
    -- region 2 ref.go:23
    refine K.KW.region ?_
    refine K.RW.q rfl rfl (K.QR.k (v := .int .i64 ((k : Nat) : Int)) (by kernel_rfl)) ?_
    refine K.RW.q rfl rfl (K.QR.k (v := .slice a l.length cap) (by kernel_rfl)) ?_
    refine K.RW.q rfl rfl (K.QR.len (P := Try.prog) rfl rfl Try.underlying53) ?_
    by_cases h9 : (((k : Nat) : Int) : Int) < (((l.length : Nat) : Int) : Int)
    ·  -- yes
      refine K.RW.q rfl rfl (K.QR.nice (v := .bool (decide ((((k : Nat) : Int) : Int) < (((l.length : Nat) : Int) : Int)))) (by kernel_rfl) (congrArg Value.bool (decide_eq_true h9))) ?_
      refine K.RW.nil ?_
      refine K.thn_normal ?_
      refine K.KW.ifT rfl ?_
      refine K.KW.skip ?_
      refine K.thn_normal ?_
      refine K.KW.seq ?_
      refine K.KW.block ?_
      refine K.KW.seq ?_
      -- region 4 ref.go:24
      refine K.KW.region ?_
      refine K.RW.q rfl rfl (K.QR.k (v := .slice a l.length cap) (by kernel_rfl)) ?_
      refine K.RW.q rfl rfl (K.QR.k (v := .int .i64 ((k : Nat) : Int)) (by kernel_rfl)) ?_
      obtain ⟨b10, of11, rfl, _⟩ := hl.at_ (by omega)
      refine K.RW.q rfl rfl (K.QR.ix (of11 + k * 3) 3 rfl rfl rfl Try.underlying53 (by kernel_rfl) (by omega) (by simp)) ?_
      refine K.RW.q rfl rfl (K.QR.k (v := .pointer (some ⟨b10, of11 + k * 3, none⟩)) (by kernel_rfl)) ?_
      refine K.RW.q rfl rfl (K.QR.ld1 (v := .int .i64 ((l.getD k d3).at_)) rfl rfl (by kernel_rfl) (c5.cell (hl.ld k (by omega) 0 _ rfl) id)) ?_
      refine K.RW.q rfl rfl (K.QR.k (v := .int .i64 at_) (by kernel_rfl)) ?_
      by_cases h12 : ((l.getD k d3).at_ : Int) = (at_ : Int)
      ·  -- yes
        refine K.RW.q rfl rfl (K.QR.nice (v := .bool (((l.getD k d3).at_ : Int) == (at_ : Int))) (by kernel_rfl) (congrArg Value.bool (beq_iff_eq.2 h12))) ?_
        refine K.RW.nil ?_
        refine K.thn_normal ?_
        refine K.KW.ifT rfl ?_
        refine K.KW.seq ?_
        -- region 5 ref.go:25
        refine K.KW.region ?_
        refine K.RW.q rfl rfl (K.QR.k (v := .int .i64 ((k : Nat) : Int)) (by kernel_rfl)) ?_
        refine K.RW.q rfl rfl (K.QR.k (v := .int .i64 ((k : Nat) : Int)) (by kernel_rfl)) ?_
        refine K.RW.nil ?_
        refine K.thn_normal ?_
        refine K.KW.ret ?_
        refine K.blk_ret ?_
        refine K.thn_ret ?_
        refine K.thn_ret ?_
        refine K.blk_ret ?_
        refine K.thn_ret ?_
        refine ⟨.inr rfl, (.int .i64 ((k : Nat) : Int)), K.res1 rfl rfl, ?_⟩
        exact ⟨c5, .inl ⟨k, rfl, by omega, by assumption⟩⟩
      ·  -- no
        refine K.RW.q rfl rfl (K.QR.nice (v := .bool (((l.getD k d3).at_ : Int) == (at_ : Int))) (by kernel_rfl) (congrArg Value.bool (beq_eq_false_iff_ne.2 h12))) ?_
        refine K.RW.nil ?_
        refine K.thn_normal ?_
        refine K.KW.ifF rfl ?_
        refine K.KW.skip ?_
        refine K.blk_normal ?_
        refine K.thn_normal ?_
        -- region 3 ref.go:23
        refine K.KW.region ?_
        refine K.RW.q rfl rfl (K.QR.k (v := .int .i64 ((k : Nat) : Int)) (by kernel_rfl)) ?_
        refine K.RW.q rfl rfl (K.QR.n64 ((((k : Nat) : Int) : Int) + (1 : Int)) ((k + 1 : Nat) : Int) (by kernel_rfl) (by omega)) ?_
        refine K.RW.q rfl rfl (K.QR.k (v := .int .i64 ((k + 1 : Nat) : Int)) (by kernel_rfl)) ?_
        refine K.RW.nil ?_
        refine K.thn_normal ?_
        refine ⟨_, ?_, k + 1, rfl, ⟨by rfl, by rfl, by rfl, trivial⟩, (by omega), (fun i h => by rcases Nat.lt_or_ge i k with h2 | h2 <;> first | exact (by assumption : ∀ i, i < k → (l.getD i d3).at_ ≠ at_) i h2 | (rw [show i = k by omega]; assumption)), c5⟩
        omega
    ·  -- no
      refine K.RW.q rfl rfl (K.QR.nice (v := .bool (decide ((((k : Nat) : Int) : Int) < (((l.length : Nat) : Int) : Int)))) (by kernel_rfl) (congrArg Value.bool (decide_eq_false h9))) ?_
      refine K.RW.nil ?_
      refine K.thn_normal ?_
      refine K.KW.ifF rfl ?_
      refine K.KW.exit ?_
      refine K.thn_exit ?_
      refine K.thn_exit ?_
      refine K.blk_hit ?_
      refine K.thn_normal ?_
      refine K.KW.seq ?_
      -- region 6 ref.go:28
      refine K.KW.region ?_
      refine K.RW.q rfl rfl (K.QR.k (v := .int .i64 (-1)) (by kernel_rfl)) ?_
      refine K.RW.nil ?_
      refine K.thn_normal ?_
      refine K.KW.ret ?_
      refine ⟨.inr rfl, (.int .i64 (-1)), K.res1 rfl rfl, ?_⟩
      exact ⟨c5, .inr ⟨rfl, fun i h => (by assumption : ∀ i, i < k → (l.getD i d3).at_ ≠ at_) i (by omega)⟩⟩

set_option maxHeartbeats 1000000 in
set_option maxRecDepth 100000 in
theorem rapply_ok (a b : Option Addr) (cap cap' : Nat) (xs : List Int) (l : List Chg3) (w0 : World) (hm : xs.length * 8 ≤ 140737488351232) (hm' : l.length ≤ 9223372036854775807) (hx : RU64 w0 a xs) (hl : RCh w0 b l) :
    K.KC Try.prog 29 #[.slice a xs.length cap, .slice b l.length cap'] w0 (fun v w' => ∃ r m c, v = .tuple #[.slice r m c, .int .i64 (apply xs l).1] ∧ K.Chg K.No w0 w' ∧ K.Own w' w0.heap.size 22 1 r m c (((apply xs l).2).flatMap cU64) ∧ (apply xs l).2.length = m) := by
  refine K.KC.mk (n := 64) Try.func29 rfl rfl [.slice a xs.length cap, .slice b l.length cap'] rfl rfl ?_
  refine K.KW.seq ?_
  -- region 0 ref.go:32
  refine K.KW.region ?_
  refine K.RW.q rfl rfl (K.QR.k (v := .slice none 0 0) (by kernel_rfl)) ?_
  refine K.RW.q rfl rfl (K.QR.k (v := .int .i64 0) (by kernel_rfl)) ?_
  refine K.RW.nil ?_
  refine K.thn_normal ?_
  refine K.KW.seq ?_
  refine K.KW.seq ?_
  -- region 1 ref.go:33
  refine K.KW.region ?_
  refine K.RW.q rfl rfl (K.QR.k (v := .slice b l.length cap') (by kernel_rfl)) ?_
  refine K.RW.l rfl (K.OW.call rfl [.slice b l.length cap'] rfl rfl (by kernel_rfl) (rright_ok _ _ l _ (by first | omega | (simp; omega) | (simp; done)) hl) ?_) 
  rintro v4 w2 ⟨hv3, c1⟩
  have c5 := c1
  have z6 := c5.size
  rcases Bool.eq_false_or_eq_true (right l) with hb7 | hb7
  ·  -- True
    rw [hb7] at hv3; subst hv3
    refine K.RW.q rfl rfl (K.QR.k (v := .bool false) (by kernel_rfl)) ?_
    refine K.RW.nil ?_
    refine K.thn_normal ?_
    refine K.KW.ifF rfl ?_
    refine K.KW.skip ?_
    refine K.thn_normal ?_
    refine K.KW.seq ?_
    refine K.KW.seq ?_
    -- region 3 ref.go:36
    refine K.KW.region ?_
    refine K.RW.q rfl rfl (K.QR.k (v := .int .i64 0) (by kernel_rfl)) ?_
    refine K.RW.nil ?_
    refine K.thn_normal ?_
    refine K.KW.block ?_
    refine K.KW.loop (fun m F w8 => ∃ (k : Nat), m = l.length - k ∧ K.Sl F [(0, .slice a xs.length cap), (1, .slice b l.length cap'), (6, .int .i64 ((k : Nat) : Int))] ∧ k ≤ l.length ∧ (∀ i, i < k → (l.getD i d3).at_ < xs.length) ∧ K.Chg K.No w0 w8) ((fun (k : Nat) => l.length - k) 0) ?_ ?_
    · -- the loop begins
      exact ⟨0, rfl, ⟨by rfl, by rfl, by rfl, trivial⟩, (by omega), (fun i h => by omega), c5⟩
    · -- a round
      intro m9 F10 w8 hI
      obtain ⟨k, rfl, sl11, p13, p14, c12⟩ := hI
      rw [← K.Sl.puts sl11]; clear sl11
      have z15 := c12.size
      refine K.KW.seq ?_
      refine K.KW.seq ?_
      -- region 4 ref.go:36
      refine K.KW.region ?_
      refine K.RW.q rfl rfl (K.QR.k (v := .int .i64 ((k : Nat) : Int)) (by kernel_rfl)) ?_
      refine K.RW.q rfl rfl (K.QR.k (v := .slice b l.length cap') (by kernel_rfl)) ?_
      refine K.RW.q rfl rfl (K.QR.len (P := Try.prog) rfl rfl Try.underlying53) ?_
      by_cases h16 : (((k : Nat) : Int) : Int) < (((l.length : Nat) : Int) : Int)
      ·  -- yes
        refine K.RW.q rfl rfl (K.QR.nice (v := .bool (decide ((((k : Nat) : Int) : Int) < (((l.length : Nat) : Int) : Int)))) (by kernel_rfl) (congrArg Value.bool (decide_eq_true h16))) ?_
        refine K.RW.nil ?_
        refine K.thn_normal ?_
        refine K.KW.ifT rfl ?_
        refine K.KW.skip ?_
        refine K.thn_normal ?_
        refine K.KW.seq ?_
        refine K.KW.block ?_
        refine K.KW.seq ?_
        -- region 6 ref.go:37
        refine K.KW.region ?_
        refine K.RW.q rfl rfl (K.QR.k (v := .slice b l.length cap') (by kernel_rfl)) ?_
        refine K.RW.q rfl rfl (K.QR.k (v := .int .i64 ((k : Nat) : Int)) (by kernel_rfl)) ?_
        obtain ⟨b17, of18, rfl, _⟩ := hl.at_ (by omega)
        refine K.RW.q rfl rfl (K.QR.ix (of18 + k * 3) 3 rfl rfl rfl Try.underlying53 (by kernel_rfl) (by omega) (by simp)) ?_
        refine K.RW.q rfl rfl (K.QR.k (v := .pointer (some ⟨b17, of18 + k * 3, none⟩)) (by kernel_rfl)) ?_
        refine K.RW.q rfl rfl (K.QR.ld1 (v := .int .i64 ((l.getD k d3).at_)) rfl rfl (by kernel_rfl) (c12.cell (hl.ld k (by omega) 0 _ rfl) id)) ?_
        refine K.RW.q rfl rfl (K.QR.k (v := .slice a xs.length cap) (by kernel_rfl)) ?_
        refine K.RW.q rfl rfl (K.QR.len (P := Try.prog) rfl rfl Try.underlying32) ?_
        by_cases h19 : ((l.getD k d3).at_ : Int) ≥ (((xs.length : Nat) : Int) : Int)
        ·  -- yes
          refine K.RW.q rfl rfl (K.QR.nice (v := .bool (decide (((l.getD k d3).at_ : Int) ≥ (((xs.length : Nat) : Int) : Int)))) (by kernel_rfl) (congrArg Value.bool (decide_eq_true h19))) ?_
          refine K.RW.nil ?_
          refine K.thn_normal ?_
          refine K.KW.ifT rfl ?_
          refine K.KW.seq ?_
          -- region 7 ref.go:38
          refine K.KW.region ?_
          refine K.RW.q rfl rfl (K.QR.k (v := .slice none 0 0) (by kernel_rfl)) ?_
          refine K.RW.q rfl rfl (K.QR.k (v := .int .i64 5) (by kernel_rfl)) ?_
          refine K.RW.nil ?_
          refine K.thn_normal ?_
          refine K.KW.ret ?_
          refine K.blk_ret ?_
          refine K.thn_ret ?_
          refine K.thn_ret ?_
          refine K.blk_ret ?_
          refine K.thn_ret ?_
          refine ⟨.inr rfl, (.tuple #[.slice none 0 0, .int .i64 5]), K.res2 rfl rfl rfl, ?_⟩
          rw [apply_5' (i := k) (by assumption) (by omega) (by assumption)]
          exact ⟨_, _, _, rfl, c12, K.Own.nil _ _ _ _, rfl⟩
        ·  -- no
          refine K.RW.q rfl rfl (K.QR.nice (v := .bool (decide (((l.getD k d3).at_ : Int) ≥ (((xs.length : Nat) : Int) : Int)))) (by kernel_rfl) (congrArg Value.bool (decide_eq_false h19))) ?_
          refine K.RW.nil ?_
          refine K.thn_normal ?_
          refine K.KW.ifF rfl ?_
          refine K.KW.skip ?_
          refine K.blk_normal ?_
          refine K.thn_normal ?_
          -- region 5 ref.go:36
          refine K.KW.region ?_
          refine K.RW.q rfl rfl (K.QR.k (v := .int .i64 ((k : Nat) : Int)) (by kernel_rfl)) ?_
          refine K.RW.q rfl rfl (K.QR.n64 ((((k : Nat) : Int) : Int) + (1 : Int)) ((k + 1 : Nat) : Int) (by kernel_rfl) (by omega)) ?_
          refine K.RW.q rfl rfl (K.QR.k (v := .int .i64 ((k + 1 : Nat) : Int)) (by kernel_rfl)) ?_
          refine K.RW.nil ?_
          refine K.thn_normal ?_
          refine ⟨_, ?_, k + 1, rfl, ⟨by rfl, by rfl, by rfl, trivial⟩, (by omega), (fun i h => by rcases Nat.lt_or_ge i k with h2 | h2 <;> first | exact (by assumption : ∀ i, i < k → (l.getD i d3).at_ < xs.length) i h2 | (rw [show i = k by omega]; omega)), c12⟩
          omega
      ·  -- no
        refine K.RW.q rfl rfl (K.QR.nice (v := .bool (decide ((((k : Nat) : Int) : Int) < (((l.length : Nat) : Int) : Int)))) (by kernel_rfl) (congrArg Value.bool (decide_eq_false h16))) ?_
        refine K.RW.nil ?_
        refine K.thn_normal ?_
        refine K.KW.ifF rfl ?_
        refine K.KW.exit ?_
        refine K.thn_exit ?_
        refine K.thn_exit ?_
        refine K.blk_hit ?_
        refine K.thn_normal ?_
        refine K.KW.seq ?_
        -- region 8 ref.go:41
        refine K.KW.region ?_
        refine K.RW.q rfl rfl (K.QR.k (v := .slice none 0 0) (by kernel_rfl)) ?_
        refine K.RW.nil ?_
        refine K.thn_normal ?_
        refine K.KW.seq ?_
        refine K.KW.seq ?_
        -- region 9 ref.go:42
        refine K.KW.region ?_
        refine K.RW.q rfl rfl (K.QR.k (v := .int .i64 0) (by kernel_rfl)) ?_
        refine K.RW.nil ?_
        refine K.thn_normal ?_
        refine K.KW.block ?_
        refine K.KW.loop (fun m F w20 => ∃ (i : Nat) (ys : List Int) (r : Option Addr) (m1 : Nat) (c1 : Nat), m = xs.length - i ∧ K.Sl F [(0, .slice a xs.length cap), (1, .slice b l.length cap'), (7, .slice r m1 c1), (8, .int .i64 ((i : Nat) : Int))] ∧ i ≤ xs.length ∧ ys.length = m1 ∧ m1 = i ∧ outTo xs l ys i ∧ (∀ i, i < l.length → (l.getD i d3).at_ < xs.length) ∧ K.Chg K.No w0 w20 ∧ K.Own w20 w0.heap.size 22 1 r m1 c1 ((ys).flatMap cU64)) ((fun (i : Nat) (ys : List Int) (r : Option Addr) (m1 : Nat) (c1 : Nat) => xs.length - i) 0 [] none 0 0) ?_ ?_
        · -- the loop begins
          exact ⟨0, [], none, 0, 0, rfl, ⟨by rfl, by rfl, by rfl, by rfl, trivial⟩, (by omega), (rfl), (rfl), (outTo_zero (by assumption)), (fun i h => (by assumption : ∀ i, i < k → (l.getD i d3).at_ < xs.length) i (by omega)), c12, K.Own.nil _ _ _ _⟩
        · -- a round
          intro m21 F22 w20 hI
          obtain ⟨i, ys, r, m1, c1, rfl, sl23, p25, p26, p27, p28, p29, c24, f30⟩ := hI
          rw [← K.Sl.puts sl23]; clear sl23
          have z31 := c24.size
          refine K.KW.seq ?_
          refine K.KW.seq ?_
          -- region 10 ref.go:42
          refine K.KW.region ?_
          refine K.RW.q rfl rfl (K.QR.k (v := .int .i64 ((i : Nat) : Int)) (by kernel_rfl)) ?_
          refine K.RW.q rfl rfl (K.QR.k (v := .slice a xs.length cap) (by kernel_rfl)) ?_
          refine K.RW.q rfl rfl (K.QR.len (P := Try.prog) rfl rfl Try.underlying32) ?_
          by_cases h32 : (((i : Nat) : Int) : Int) < (((xs.length : Nat) : Int) : Int)
          ·  -- yes
            refine K.RW.q rfl rfl (K.QR.nice (v := .bool (decide ((((i : Nat) : Int) : Int) < (((xs.length : Nat) : Int) : Int)))) (by kernel_rfl) (congrArg Value.bool (decide_eq_true h32))) ?_
            refine K.RW.nil ?_
            refine K.thn_normal ?_
            refine K.KW.ifT rfl ?_
            refine K.KW.skip ?_
            refine K.thn_normal ?_
            refine K.KW.seq ?_
            refine K.KW.block ?_
            refine K.KW.seq ?_
            -- region 12 ref.go:43
            refine K.KW.region ?_
            refine K.RW.q rfl rfl (K.QR.k (v := .slice a xs.length cap) (by kernel_rfl)) ?_
            refine K.RW.q rfl rfl (K.QR.k (v := .int .i64 ((i : Nat) : Int)) (by kernel_rfl)) ?_
            obtain ⟨b33, of34, rfl, _⟩ := hx.at_ (by omega)
            refine K.RW.q rfl rfl (K.QR.ix (of34 + i * 1) 1 rfl rfl rfl Try.underlying32 (by kernel_rfl) (by omega) (by simp)) ?_
            refine K.RW.q rfl rfl (K.QR.ld1 (v := .int .u64 (xs.getD i 0)) rfl rfl (by kernel_rfl) (c24.cell (hx.ld i (by omega) 0 _ rfl) id)) ?_
            refine K.RW.q rfl rfl (K.QR.k (v := .int .u64 (xs.getD i 0)) (by kernel_rfl)) ?_
            refine K.RW.nil ?_
            refine K.thn_normal ?_
            refine K.KW.seq ?_
            -- region 13 ref.go:44
            refine K.KW.region ?_
            refine K.RW.q rfl rfl (K.QR.k (v := .slice b l.length cap') (by kernel_rfl)) ?_
            refine K.RW.q rfl rfl (K.QR.k (v := .int .i64 ((i : Nat) : Int)) (by kernel_rfl)) ?_
            refine K.RW.l rfl (K.OW.call rfl [.slice b l.length cap', .int .i64 ((i : Nat) : Int)] rfl rfl (by kernel_rfl) (rfind_ok _ _ l _ _ (by first | omega | (simp; omega) | (simp; done)) (hl.no c24)) ?_) 
            rintro v36 w35 ⟨c37, h38⟩
            have c39 := c24.no c37
            have z40 := c39.size
            have f41 := f30.no c37
            rcases h38 with ⟨k42, rfl, h43, g44⟩ | ⟨rfl, g45⟩
            ·  -- one way
              refine K.RW.q rfl rfl (K.QR.k (v := .int .i64 ((k42 : Nat) : Int)) (by kernel_rfl)) ?_
              refine K.RW.nil ?_
              refine K.thn_normal ?_
              refine K.KW.seq ?_
              refine K.KW.seq ?_
              -- region 14 ref.go:45
              refine K.KW.region ?_
              refine K.RW.q rfl rfl (K.QR.k (v := .int .i64 ((k42 : Nat) : Int)) (by kernel_rfl)) ?_
              refine K.RW.q rfl rfl (K.QR.nice (v := .bool (decide ((((k42 : Nat) : Int) : Int) ≥ (0 : Int)))) (by kernel_rfl) (congrArg Value.bool (decide_eq_true (by omega)))) ?_
              refine K.RW.q rfl rfl (K.QR.k (v := .bool true) (by kernel_rfl)) ?_
              refine K.RW.q rfl (by kernel_rfl) (K.QR.k (v := .slice b l.length cap') (by kernel_rfl)) ?_
              refine K.RW.q rfl (by kernel_rfl) (K.QR.k (v := .int .i64 ((k42 : Nat) : Int)) (by kernel_rfl)) ?_
              obtain ⟨b46, of47, rfl, _⟩ := hl.at_ (by omega)
              refine K.RW.q rfl (by kernel_rfl) (K.QR.ix (of47 + k42 * 3) 3 rfl rfl rfl Try.underlying53 (by kernel_rfl) (by omega) (by simp)) ?_
              refine K.RW.q rfl (by kernel_rfl) (K.QR.k (v := .pointer (some ⟨b46, of47 + k42 * 3 + 1, none⟩)) (by kernel_rfl)) ?_
              refine K.RW.q rfl (by kernel_rfl) (K.QR.ld1 (v := .int .u64 ((l.getD k42 d3).old)) rfl rfl (by kernel_rfl) (c39.cell (hl.ld k42 (by omega) 1 _ rfl) id)) ?_
              refine K.RW.q rfl (by kernel_rfl) (K.QR.k (v := .int .u64 (xs.getD i 0)) (by kernel_rfl)) ?_
              by_cases h48 : ((l.getD k42 d3).old : Int) = (xs.getD i 0 : Int)
              ·  -- yes
                refine K.RW.q rfl (by kernel_rfl) (K.QR.nice (v := .bool (((l.getD k42 d3).old : Int) != (xs.getD i 0 : Int))) (by kernel_rfl) (congrArg Value.bool (bne_eq_false_iff_eq.2 h48))) ?_
                refine K.RW.q rfl rfl (K.QR.k (v := .bool false) (by kernel_rfl)) ?_
                refine K.RW.nil ?_
                refine K.thn_normal ?_
                refine K.KW.ifF rfl ?_
                refine K.KW.skip ?_
                refine K.thn_normal ?_
                refine K.KW.seq ?_
                refine K.KW.seq ?_
                -- region 16 ref.go:48
                refine K.KW.region ?_
                refine K.RW.q rfl rfl (K.QR.k (v := .int .i64 ((k42 : Nat) : Int)) (by kernel_rfl)) ?_
                refine K.RW.q rfl rfl (K.QR.nice (v := .bool (decide ((((k42 : Nat) : Int) : Int) ≥ (0 : Int)))) (by kernel_rfl) (congrArg Value.bool (decide_eq_true (by omega)))) ?_
                refine K.RW.nil ?_
                refine K.thn_normal ?_
                refine K.KW.ifT rfl ?_
                -- region 17 ref.go:49
                refine K.KW.region ?_
                refine K.RW.q rfl rfl (K.QR.k (v := .slice (some ⟨b46, of47, none⟩) l.length cap') (by kernel_rfl)) ?_
                refine K.RW.q rfl rfl (K.QR.k (v := .int .i64 ((k42 : Nat) : Int)) (by kernel_rfl)) ?_
                refine K.RW.q rfl rfl (K.QR.ix (of47 + k42 * 3) 3 rfl rfl rfl Try.underlying53 (by kernel_rfl) (by omega) (by simp)) ?_
                refine K.RW.q rfl rfl (K.QR.k (v := .pointer (some ⟨b46, of47 + k42 * 3 + 2, none⟩)) (by kernel_rfl)) ?_
                refine K.RW.q rfl rfl (K.QR.ld1 (v := .int .u64 ((l.getD k42 d3).new)) rfl rfl (by kernel_rfl) (c39.cell (hl.ld k42 (by omega) 2 _ rfl) id)) ?_
                refine K.RW.q rfl rfl (K.QR.k (v := .int .u64 ((l.getD k42 d3).new)) (by kernel_rfl)) ?_
                refine K.RW.nil ?_
                refine K.thn_normal ?_
                -- region 18 ref.go:51
                refine K.KW.region ?_
                refine K.RW.q rfl rfl (K.QR.k (v := .slice r m1 c1) (by kernel_rfl)) ?_
                refine K.RW.q rfl rfl (K.QR.k (v := .int .u64 ((l.getD k42 d3).new)) (by kernel_rfl)) ?_
                refine K.RW.l rfl (K.OW.bs rfl [(0, .int .u64 ((l.getD k42 d3).new))] [.int .u64 ((l.getD k42 d3).new)] rfl rfl (fun w => K.bs_run (P := Try.prog) w 32 22 1 _ _ Try.underlying32 (by kernel_rfl)) ?_) 
                intro w49 r50 hr51 e52 hs53 b54
                have c55 := c39.no e52
                have z56 := c55.size
                have f57 := f41.no e52
                have ap58 : ∀ k, K.Ow r k → ¬ k = r50 := fun k hk he => absurd (f41.lt k hk) (by omega)
                refine K.RW.l rfl (K.OW.app (P := Try.prog) (xs := (ys).flatMap cU64) (z := .int .u64 0) (size := 1) (bytes := 8) rfl [.int .u64 ((l.getD k42 d3).new)] rfl rfl f57 rfl Try.underlying32 (by kernel_rfl) rfl (by decide) (by rfl) (fun j u hj => (by rw [Nat.zero_add]; exact b54.cell hj)) (K.one_cells (by rfl)) (by unfold maxLen; omega) (by omega) (by omega) ?_) 
                intro a59 cap60 w61 e62 o63
                have c64 := c55.trans e62 (fun i hi hy => absurd (f57.base_le i hy) (by omega))
                have z65 := c64.size
                have o63t := K.Own.snoc (c := cU64) (L := ys) ((l.getD k42 d3).new : Int) rfl o63
                have ln66 : ((ys ++ [((l.getD k42 d3).new : Int)])).length = m1 + 1 := by rw [List.length_append, p26]; rfl
                refine K.RW.q rfl rfl (K.QR.k (v := .slice a59 (m1 + 1) cap60) (by kernel_rfl)) ?_
                refine K.RW.nil ?_
                refine K.blk_normal ?_
                refine K.thn_normal ?_
                -- region 11 ref.go:42
                refine K.KW.region ?_
                refine K.RW.q rfl rfl (K.QR.k (v := .int .i64 ((i : Nat) : Int)) (by kernel_rfl)) ?_
                refine K.RW.q rfl rfl (K.QR.n64 ((((i : Nat) : Int) : Int) + (1 : Int)) ((i + 1 : Nat) : Int) (by kernel_rfl) (by omega)) ?_
                refine K.RW.q rfl rfl (K.QR.k (v := .int .i64 ((i + 1 : Nat) : Int)) (by kernel_rfl)) ?_
                refine K.RW.nil ?_
                refine K.thn_normal ?_
                refine ⟨_, ?_, i + 1, (ys ++ [((l.getD k42 d3).new : Int)]), a59, m1 + 1, cap60, rfl, ⟨by rfl, by rfl, by rfl, by rfl, trivial⟩, (by omega), (ln66), (by omega), (by first | exact outTo_new (by assumption) (by assumption) (by assumption) (by assumption) (by assumption) | exact outTo_old (by assumption) (by assumption) (by assumption)), (by assumption), c64, o63t⟩
                omega
              ·  -- no
                refine K.RW.q rfl (by kernel_rfl) (K.QR.nice (v := .bool (((l.getD k42 d3).old : Int) != (xs.getD i 0 : Int))) (by kernel_rfl) (congrArg Value.bool (bne_iff_ne.2 h48))) ?_
                refine K.RW.q rfl rfl (K.QR.k (v := .bool true) (by kernel_rfl)) ?_
                refine K.RW.nil ?_
                refine K.thn_normal ?_
                refine K.KW.ifT rfl ?_
                refine K.KW.seq ?_
                -- region 15 ref.go:46
                refine K.KW.region ?_
                refine K.RW.q rfl rfl (K.QR.k (v := .slice none 0 0) (by kernel_rfl)) ?_
                refine K.RW.q rfl rfl (K.QR.k (v := .int .i64 9) (by kernel_rfl)) ?_
                refine K.RW.nil ?_
                refine K.thn_normal ?_
                refine K.KW.ret ?_
                refine K.thn_ret ?_
                refine K.blk_ret ?_
                refine K.thn_ret ?_
                refine K.thn_ret ?_
                refine K.blk_ret ?_
                refine K.thn_ret ?_
                refine ⟨.inr rfl, (.tuple #[.slice none 0 0, .int .i64 9]), K.res2 rfl rfl rfl, ?_⟩
                rw [apply_9' (i := i) (by assumption) (by assumption) (by assumption) (by assumption) (by assumption)]
                exact ⟨_, _, _, rfl, c39, K.Own.nil _ _ _ _, rfl⟩
            ·  -- one way
              refine K.RW.q rfl rfl (K.QR.k (v := .int .i64 (-1)) (by kernel_rfl)) ?_
              refine K.RW.nil ?_
              refine K.thn_normal ?_
              refine K.KW.seq ?_
              refine K.KW.seq ?_
              -- region 14 ref.go:45
              refine K.KW.region ?_
              refine K.RW.q rfl rfl (K.QR.k (v := .int .i64 (-1)) (by kernel_rfl)) ?_
              refine K.RW.q rfl rfl (K.QR.k (v := .bool false) (by kernel_rfl)) ?_
              refine K.RW.q rfl rfl (K.QR.k (v := .bool false) (by kernel_rfl)) ?_
              refine K.RW.skip rfl (by kernel_rfl) ?_
              refine K.RW.skip rfl (by kernel_rfl) ?_
              refine K.RW.skip rfl (by kernel_rfl) ?_
              refine K.RW.skip rfl (by kernel_rfl) ?_
              refine K.RW.skip rfl (by kernel_rfl) ?_
              refine K.RW.skip rfl (by kernel_rfl) ?_
              refine K.RW.skip rfl (by kernel_rfl) ?_
              refine K.RW.q rfl rfl (K.QR.k (v := .bool false) (by kernel_rfl)) ?_
              refine K.RW.nil ?_
              refine K.thn_normal ?_
              refine K.KW.ifF rfl ?_
              refine K.KW.skip ?_
              refine K.thn_normal ?_
              refine K.KW.seq ?_
              refine K.KW.seq ?_
              -- region 16 ref.go:48
              refine K.KW.region ?_
              refine K.RW.q rfl rfl (K.QR.k (v := .int .i64 (-1)) (by kernel_rfl)) ?_
              refine K.RW.q rfl rfl (K.QR.k (v := .bool false) (by kernel_rfl)) ?_
              refine K.RW.nil ?_
              refine K.thn_normal ?_
              refine K.KW.ifF rfl ?_
              refine K.KW.skip ?_
              refine K.thn_normal ?_
              -- region 18 ref.go:51
              refine K.KW.region ?_
              refine K.RW.q rfl rfl (K.QR.k (v := .slice r m1 c1) (by kernel_rfl)) ?_
              refine K.RW.q rfl rfl (K.QR.k (v := .int .u64 (xs.getD i 0)) (by kernel_rfl)) ?_
              refine K.RW.l rfl (K.OW.bs rfl [(0, .int .u64 (xs.getD i 0))] [.int .u64 (xs.getD i 0)] rfl rfl (fun w => K.bs_run (P := Try.prog) w 32 22 1 _ _ Try.underlying32 (by kernel_rfl)) ?_) 
              intro w67 r68 hr69 e70 hs71 b72
              have c73 := c39.no e70
              have z74 := c73.size
              have f75 := f41.no e70
              have ap76 : ∀ k, K.Ow r k → ¬ k = r68 := fun k hk he => absurd (f41.lt k hk) (by omega)
              refine K.RW.l rfl (K.OW.app (P := Try.prog) (xs := (ys).flatMap cU64) (z := .int .u64 0) (size := 1) (bytes := 8) rfl [.int .u64 (xs.getD i 0)] rfl rfl f75 rfl Try.underlying32 (by kernel_rfl) rfl (by decide) (by rfl) (fun j u hj => (by rw [Nat.zero_add]; exact b72.cell hj)) (K.one_cells (by rfl)) (by unfold maxLen; omega) (by omega) (by omega) ?_) 
              intro a77 cap78 w79 e80 o81
              have c82 := c73.trans e80 (fun i hi hy => absurd (f75.base_le i hy) (by omega))
              have z83 := c82.size
              have o81t := K.Own.snoc (c := cU64) (L := ys) (xs.getD i 0 : Int) rfl o81
              have ln84 : ((ys ++ [(xs.getD i 0 : Int)])).length = m1 + 1 := by rw [List.length_append, p26]; rfl
              refine K.RW.q rfl rfl (K.QR.k (v := .slice a77 (m1 + 1) cap78) (by kernel_rfl)) ?_
              refine K.RW.nil ?_
              refine K.blk_normal ?_
              refine K.thn_normal ?_
              -- region 11 ref.go:42
              refine K.KW.region ?_
              refine K.RW.q rfl rfl (K.QR.k (v := .int .i64 ((i : Nat) : Int)) (by kernel_rfl)) ?_
              refine K.RW.q rfl rfl (K.QR.n64 ((((i : Nat) : Int) : Int) + (1 : Int)) ((i + 1 : Nat) : Int) (by kernel_rfl) (by omega)) ?_
              refine K.RW.q rfl rfl (K.QR.k (v := .int .i64 ((i + 1 : Nat) : Int)) (by kernel_rfl)) ?_
              refine K.RW.nil ?_
              refine K.thn_normal ?_
              refine ⟨_, ?_, i + 1, (ys ++ [(xs.getD i 0 : Int)]), a77, m1 + 1, cap78, rfl, ⟨by rfl, by rfl, by rfl, by rfl, trivial⟩, (by omega), (ln84), (by omega), (by first | exact outTo_new (by assumption) (by assumption) (by assumption) (by assumption) (by assumption) | exact outTo_old (by assumption) (by assumption) (by assumption)), (by assumption), c82, o81t⟩
              omega
          ·  -- no
            refine K.RW.q rfl rfl (K.QR.nice (v := .bool (decide ((((i : Nat) : Int) : Int) < (((xs.length : Nat) : Int) : Int)))) (by kernel_rfl) (congrArg Value.bool (decide_eq_false h32))) ?_
            refine K.RW.nil ?_
            refine K.thn_normal ?_
            refine K.KW.ifF rfl ?_
            refine K.KW.exit ?_
            refine K.thn_exit ?_
            refine K.thn_exit ?_
            refine K.blk_hit ?_
            refine K.thn_normal ?_
            refine K.KW.seq ?_
            -- region 19 ref.go:53
            refine K.KW.region ?_
            refine K.RW.q rfl rfl (K.QR.k (v := .slice r m1 c1) (by kernel_rfl)) ?_
            refine K.RW.q rfl rfl (K.QR.k (v := .slice r m1 c1) (by kernel_rfl)) ?_
            refine K.RW.q rfl rfl (K.QR.k (v := .int .i64 0) (by kernel_rfl)) ?_
            refine K.RW.nil ?_
            refine K.thn_normal ?_
            refine K.KW.ret ?_
            refine ⟨.inr rfl, (.tuple #[.slice r m1 c1, .int .i64 0]), K.res2 rfl rfl rfl, ?_⟩
            rw [apply_out (i := i) (by assumption) (by assumption) (by assumption) (by omega)]
            exact ⟨_, _, _, rfl, c24, f30, p26⟩
  ·  -- False
    rw [hb7] at hv3; subst hv3
    refine K.RW.q rfl rfl (K.QR.k (v := .bool true) (by kernel_rfl)) ?_
    refine K.RW.nil ?_
    refine K.thn_normal ?_
    refine K.KW.ifT rfl ?_
    refine K.KW.seq ?_
    -- region 2 ref.go:34
    refine K.KW.region ?_
    refine K.RW.q rfl rfl (K.QR.k (v := .slice none 0 0) (by kernel_rfl)) ?_
    refine K.RW.q rfl rfl (K.QR.k (v := .int .i64 3) (by kernel_rfl)) ?_
    refine K.RW.nil ?_
    refine K.thn_normal ?_
    refine K.KW.ret ?_
    refine K.thn_ret ?_
    refine ⟨.inr rfl, (.tuple #[.slice none 0 0, .int .i64 3]), K.res2 rfl rfl rfl, ?_⟩
    rw [apply_3 (by assumption)]
    exact ⟨_, _, _, rfl, c5, K.Own.nil _ _ _ _, rfl⟩

/-- the line of the k-th change -/
def lnOf (l : List Chg3) (k : Nat) : Int := (l.getD k d3).at_ / 8
def newLn (l : List Chg3) (k : Nat) : Prop := k = 0 ∨ ¬ lnOf l k = lnOf l (k - 1)
instance (l : List Chg3) (k : Nat) : Decidable (newLn l k) := by unfold newLn; infer_instance
/-- the lines that the first k changes touch -/
def linesTo (l : List Chg3) : Nat → List Int
  | 0 => []
  | k + 1 => if newLn l k then linesTo l k ++ [lnOf l k] else linesTo l k
theorem linesTo_new {l : List Chg3} {k : Nat} (h : newLn l k) : linesTo l (k + 1) = linesTo l k ++ [lnOf l k] := if_pos h
theorem linesTo_old {l : List Chg3} {k : Nat} (h : ¬ newLn l k) : linesTo l (k + 1) = linesTo l k := if_neg h
theorem linesTo_le (l : List Chg3) : ∀ k, (linesTo l k).length ≤ k
  | 0 => Nat.le_refl _
  | k + 1 => by
    have := linesTo_le l k
    by_cases h : newLn l k
    · rw [linesTo_new h, List.length_append]; simp; omega
    · rw [linesTo_old h]; omega
theorem linesTo_last (l : List Chg3) : ∀ k, 0 < k → 0 < (linesTo l k).length ∧ (linesTo l k).getD ((linesTo l k).length - 1) 0 = lnOf l (k - 1)
  | 0, h => by omega
  | k + 1, _ => by
    by_cases h : newLn l k
    · rw [linesTo_new h, List.length_append, List.length_singleton, Nat.add_sub_cancel, Nat.add_sub_cancel]
      exact ⟨by omega, getD_snoc_eq⟩
    · rw [linesTo_old h]
      unfold newLn at h
      have := linesTo_last l k (by omega)
      rw [show k + 1 - 1 = k by omega, this.2]
      exact ⟨this.1, by omega⟩
theorem linesTo_mono (l : List Chg3) (k : Nat) : ∀ m, (linesTo l k).length ≤ (linesTo l (k + m)).length
  | 0 => Nat.le_refl _
  | m + 1 => by
    refine Nat.le_trans (linesTo_mono l k m) ?_
    show _ ≤ (linesTo l ((k + m) + 1)).length
    by_cases h : newLn l (k + m)
    · rw [linesTo_new h, List.length_append]; omega
    · rw [linesTo_old h]; exact Nat.le_refl _
theorem linesTo_get {l : List Chg3} {k : Nat} (h : newLn l k) : ∀ m, (linesTo l (k + 1 + m)).getD (linesTo l k).length 0 = lnOf l k ∧ (linesTo l k).length < (linesTo l (k + 1 + m)).length
  | 0 => by rw [Nat.add_zero, linesTo_new h]; exact ⟨getD_snoc_eq, by rw [List.length_append]; simp⟩
  | m + 1 => by
    obtain ⟨h1, h2⟩ := linesTo_get h m
    show (linesTo l ((k + 1 + m) + 1)).getD _ _ = _ ∧ _ < (linesTo l ((k + 1 + m) + 1)).length
    by_cases he : newLn l (k + 1 + m)
    · rw [linesTo_new he]; exact ⟨by rw [getD_snoc_lt h2]; exact h1, by rw [List.length_append]; omega⟩
    · rw [linesTo_old he]; exact ⟨h1, h2⟩
theorem linesTo_at {l : List Chg3} {k N : Nat} (hk : k < N) (h : newLn l k) : (linesTo l N).getD (linesTo l k).length 0 = lnOf l k ∧ (linesTo l k).length < (linesTo l N).length := by
  have := linesTo_get h (N - (k + 1))
  rwa [show k + 1 + (N - (k + 1)) = N by omega] at this

set_option maxHeartbeats 1000000 in
set_option maxRecDepth 100000 in
theorem lines_ok (a : Option Addr) (cap : Nat) (l : List Chg3) (w0 : World) (hm : l.length * 24 ≤ 140737488351232) (hr : right l = true) (hw : ∀ i, i < l.length → (l.getD i d3).at_ ≤ 9223372036854775807) (hl : RCh w0 a l) :
    K.KC Try.prog 32 #[.slice a l.length cap] w0 (fun v w' => ∃ r m c, v = .slice r m c ∧ K.Chg K.No w0 w' ∧ K.Own w' w0.heap.size 3 1 r m c ((linesTo l l.length).flatMap cI64) ∧ (linesTo l l.length).length = m) := by
  refine K.KC.mk (n := 35) Try.func32 rfl rfl [.slice a l.length cap] rfl rfl ?_
  refine K.KW.seq ?_
  -- region 0 diff.go:94
  refine K.KW.region ?_
  refine K.RW.q rfl rfl (K.QR.k (v := .slice none 0 0) (by kernel_rfl)) ?_
  refine K.RW.nil ?_
  refine K.thn_normal ?_
  refine K.KW.seq ?_
  -- region 1 diff.go:95
  refine K.KW.region ?_
  refine K.RW.q rfl rfl (K.QR.k (v := .slice none 0 0) (by kernel_rfl)) ?_
  refine K.RW.nil ?_
  refine K.thn_normal ?_
  refine K.KW.seq ?_
  refine K.KW.seq ?_
  -- region 2 diff.go:96
  refine K.KW.region ?_
  refine K.RW.q rfl rfl (K.QR.k (v := .slice a l.length cap) (by kernel_rfl)) ?_
  refine K.RW.q rfl rfl (K.QR.len (P := Try.prog) rfl rfl Try.underlying42) ?_
  refine K.RW.q rfl rfl (K.QR.k (v := .int .i64 0) (by kernel_rfl)) ?_
  refine K.RW.nil ?_
  refine K.thn_normal ?_
  refine K.KW.block ?_
  refine K.KW.loop (fun m F w1 => ∃ (k : Nat) (r : Option Addr) (m1 : Nat) (c1 : Nat), m = l.length - k ∧ K.Sl F [(0, .slice a l.length cap), (2, .slice none 0 0), (3, .slice r m1 c1), (7, .slice a l.length cap), (8, .int .i64 ((l.length : Nat) : Int)), (9, .int .i64 ((k : Nat) : Int))] ∧ k ≤ l.length ∧ (linesTo l k).length = m1 ∧ m1 ≤ k ∧ K.Chg K.No w0 w1 ∧ K.Own w1 w0.heap.size 3 1 r m1 c1 ((linesTo l k).flatMap cI64)) ((fun (k : Nat) (r : Option Addr) (m1 : Nat) (c1 : Nat) => l.length - k) 0 none 0 0) ?_ ?_
  · -- the loop begins
    exact ⟨0, none, 0, 0, rfl, ⟨by rfl, by rfl, by rfl, by rfl, by rfl, by rfl, trivial⟩, (by omega), (rfl), (by omega), (K.Chg.refl _), K.Own.nil _ _ _ _⟩
  · -- a round
    intro m2 F3 w1 hI
    obtain ⟨k, r, m1, c1, rfl, sl4, p6, p7, p8, c5, f9⟩ := hI
    rw [← K.Sl.puts sl4]; clear sl4
    have z10 := c5.size
    have hk0 : k < l.length → 0 ≤ (l.getD k d3).at_ := fun h => right_ge hr h
    have hk1 := hw k
    have hk2 : 0 < k → 0 < m1 ∧ (linesTo l k).getD (m1 - 1) 0 = lnOf l (k - 1) := by rw [← (by assumption : (linesTo l k).length = m1)]; exact linesTo_last l k
    have hk3 : lnOf l k = (l.getD k d3).at_ / 8 := rfl
    refine K.KW.seq ?_
    -- region 3 diff.go:96
    refine K.KW.region ?_
    by_cases h11 : (((k : Nat) : Int) : Int) < (((l.length : Nat) : Int) : Int)
    ·  -- yes
      refine K.RW.q rfl rfl (K.QR.nice (v := .bool (decide ((((k : Nat) : Int) : Int) < (((l.length : Nat) : Int) : Int)))) (by kernel_rfl) (congrArg Value.bool (decide_eq_true h11))) ?_
      refine K.RW.nil ?_
      refine K.thn_normal ?_
      refine K.KW.seq ?_
      refine K.KW.ifT rfl ?_
      refine K.KW.skip ?_
      refine K.thn_normal ?_
      refine K.KW.seq ?_
      refine K.KW.block ?_
      refine K.KW.seq ?_
      -- region 4 diff.go:96
      obtain ⟨b12, of13, rfl, _⟩ := hl.at_ (by omega)
      refine K.KW.region ?_
      refine K.RW.q rfl rfl (K.QR.ix (of13 + k * 3) 3 rfl rfl rfl Try.underlying42 (by kernel_rfl) (by omega) (by simp)) ?_
      refine K.RW.q rfl rfl (K.QR.ldN [.int .i64 ((l.getD k d3).at_), .int .u64 ((l.getD k d3).old), .int .u64 ((l.getD k d3).new)] rfl rfl (by kernel_rfl) (by kernel_rfl) (K.cells (K.cl (c5.cell (hl.ld k (by omega) 0 _ rfl) id) (K.cl (c5.cell (hl.ld k (by omega) 1 _ rfl) id) (K.cl (c5.cell (hl.ld k (by omega) 2 _ rfl) id) K.cl0))))) ?_
      refine K.RW.l rfl (K.OW.new (t := 46) rfl (fun r => .pointer (some ⟨r, 0, none⟩)) [.int .i64 0, .int .u64 0, .int .u64 0] (by kernel_rfl) ?_) 
      intro w14 r15 hr16 e17 hs18 b19
      have c20 := c5.no e17
      have z21 := c20.size
      have f22 := f9.no e17
      refine K.RW.l rfl (K.OW.st [.int .i64 ((l.getD k d3).at_), .int .u64 ((l.getD k d3).old), .int .u64 ((l.getD k d3).new)] [.int .i64 ((l.getD k d3).at_), .int .u64 ((l.getD k d3).old), .int .u64 ((l.getD k d3).new)] rfl rfl rfl (by kernel_rfl) b19 rfl (K.one_cells (by rfl)) rfl rfl ?_) 
      intro w23 e24 hs25 b26
      have c27 := c20.own e24 (by omega)
      have z28 := c27.size
      have f29 := f22.chg e24 (fun k hk hy => f22.ne_ty b19 (by decide) k hk hy)
      refine K.RW.nil ?_
      refine K.thn_normal ?_
      refine K.KW.seq ?_
      -- region 5 diff.go:97
      refine K.KW.region ?_
      refine K.RW.q rfl rfl (K.QR.k (v := .pointer (some ⟨r15, 0, none⟩)) (by kernel_rfl)) ?_
      refine K.RW.q rfl rfl (K.QR.ld1 (v := .int .i64 ((l.getD k d3).at_)) rfl rfl (by kernel_rfl) (b26.cell rfl)) ?_
      refine K.RW.q rfl rfl (K.QR.quoi64 ((l.getD k d3).at_ : Int) 8 (((l.getD k d3).at_ : Int) / 8) (by kernel_rfl) (by omega) (by omega)) ?_
      refine K.RW.q rfl rfl (K.QR.k (v := .int .i64 (((l.getD k d3).at_ : Int) / 8)) (by kernel_rfl)) ?_
      refine K.RW.nil ?_
      refine K.thn_normal ?_
      refine K.KW.seq ?_
      -- region 6 diff.go:98
      refine K.KW.region ?_
      refine K.RW.q rfl rfl (K.QR.k (v := .slice r m1 c1) (by kernel_rfl)) ?_
      refine K.RW.q rfl rfl (K.QR.len (P := Try.prog) rfl rfl Try.underlying56) ?_
      by_cases h30 : (((m1 : Nat) : Int) : Int) = (0 : Int)
      ·  -- yes
        refine K.RW.q rfl rfl (K.QR.nice (v := .bool ((((m1 : Nat) : Int) : Int) == (0 : Int))) (by kernel_rfl) (congrArg Value.bool (beq_iff_eq.2 h30))) ?_
        refine K.RW.q rfl rfl (K.QR.k (v := .bool true) (by kernel_rfl)) ?_
        refine K.RW.skip rfl (by kernel_rfl) ?_
        refine K.RW.skip rfl (by kernel_rfl) ?_
        refine K.RW.skip rfl (by kernel_rfl) ?_
        refine K.RW.skip rfl (by kernel_rfl) ?_
        refine K.RW.skip rfl (by kernel_rfl) ?_
        refine K.RW.skip rfl (by kernel_rfl) ?_
        refine K.RW.skip rfl (by kernel_rfl) ?_
        refine K.RW.skip rfl (by kernel_rfl) ?_
        refine K.RW.q rfl rfl (K.QR.k (v := .bool true) (by kernel_rfl)) ?_
        refine K.RW.nil ?_
        refine K.thn_normal ?_
        refine K.KW.ifT rfl ?_
        -- region 7 diff.go:99
        refine K.KW.region ?_
        refine K.RW.q rfl rfl (K.QR.k (v := .slice r m1 c1) (by kernel_rfl)) ?_
        refine K.RW.q rfl rfl (K.QR.k (v := .int .i64 (((l.getD k d3).at_ : Int) / 8)) (by kernel_rfl)) ?_
        refine K.RW.l rfl (K.OW.bs rfl [(0, .int .i64 (((l.getD k d3).at_ : Int) / 8))] [.int .i64 (((l.getD k d3).at_ : Int) / 8)] rfl rfl (fun w => K.bs_run (P := Try.prog) w 56 3 1 _ _ Try.underlying56 (by kernel_rfl)) ?_) 
        intro w31 r32 hr33 e34 hs35 b36
        have c37 := c27.no e34
        have z38 := c37.size
        have f39 := f29.no e34
        have f40 := b26.no e34
        have ap41 : ∀ k, K.Ow r k → ¬ k = r32 := fun k hk he => absurd (f29.lt k hk) (by omega)
        refine K.RW.l rfl (K.OW.app (P := Try.prog) (xs := ((linesTo l k)).flatMap cI64) (z := .int .i64 0) (size := 1) (bytes := 8) rfl [.int .i64 (((l.getD k d3).at_ : Int) / 8)] rfl rfl f39 rfl Try.underlying56 (by kernel_rfl) rfl (by decide) (by rfl) (fun j u hj => (by rw [Nat.zero_add]; exact b36.cell hj)) (K.one_cells (by rfl)) (by unfold maxLen; omega) (by omega) (by omega) ?_) 
        intro a42 cap43 w44 e45 o46
        have c47 := c37.trans e45 (fun i hi hy => absurd (f39.base_le i hy) (by omega))
        have z48 := c47.size
        have f49 := f40.chg e45 (fun hk => f39.ne_ty f40 (by decide) _ hk rfl)
        have o46t := K.Own.snoc (c := cI64) (L := (linesTo l k)) (((l.getD k d3).at_ : Int) / 8 : Int) rfl o46
        have ln50 : (((linesTo l k) ++ [(((l.getD k d3).at_ : Int) / 8 : Int)])).length = m1 + 1 := by rw [List.length_append, p7]; rfl
        refine K.RW.q rfl rfl (K.QR.k (v := .slice a42 (m1 + 1) cap43) (by kernel_rfl)) ?_
        refine K.RW.nil ?_
        refine K.blk_normal ?_
        refine K.thn_normal ?_
        -- region 8 diff.go:96
        refine K.KW.region ?_
        refine K.RW.q rfl rfl (K.QR.n64 ((((k : Nat) : Int) : Int) + (1 : Int)) ((k + 1 : Nat) : Int) (by kernel_rfl) (by omega)) ?_
        refine K.RW.q rfl rfl (K.QR.k (v := .int .i64 ((k + 1 : Nat) : Int)) (by kernel_rfl)) ?_
        refine K.RW.nil ?_
        refine K.thn_normal ?_
        refine ⟨_, ?_, k + 1, a42, m1 + 1, cap43, rfl, ⟨by rfl, by rfl, by rfl, by rfl, by rfl, by rfl, trivial⟩, (by omega), ((by first | (rw [linesTo_new (by unfold newLn; omega)]; exact ln50) | (rw [linesTo_old (by unfold newLn; omega)]; exact ln50))), (by omega), c47, (by first | (rw [linesTo_new (by unfold newLn; omega)]; exact o46t) | (rw [linesTo_old (by unfold newLn; omega)]; exact o46t))⟩
        omega
      ·  -- no
        refine K.RW.q rfl rfl (K.QR.nice (v := .bool ((((m1 : Nat) : Int) : Int) == (0 : Int))) (by kernel_rfl) (congrArg Value.bool (beq_eq_false_iff_ne.2 h30))) ?_
        refine K.RW.q rfl rfl (K.QR.k (v := .bool false) (by kernel_rfl)) ?_
        refine K.RW.q rfl (by kernel_rfl) (K.QR.k (v := .slice r m1 c1) (by kernel_rfl)) ?_
        refine K.RW.q rfl (by kernel_rfl) (K.QR.k (v := .slice r m1 c1) (by kernel_rfl)) ?_
        refine K.RW.q rfl (by kernel_rfl) (K.QR.len (P := Try.prog) rfl rfl Try.underlying56) ?_
        refine K.RW.q rfl (by kernel_rfl) (K.QR.n64 ((((m1 : Nat) : Int) : Int) - (1 : Int)) ((m1 - 1 : Nat) : Int) (by kernel_rfl) (by omega)) ?_
        obtain ⟨b51, rfl, gb53, gl54⟩ := f29.some_ (by omega)
        refine K.RW.q rfl (by kernel_rfl) (K.QR.ix (0 + (m1 - 1) * 1) 1 rfl rfl rfl Try.underlying56 (by kernel_rfl) (by omega) (by simp)) ?_
        refine K.RW.q rfl (by kernel_rfl) (K.QR.ld1 (v := .int .i64 ((linesTo l k).getD (m1 - 1) 0)) rfl rfl (by kernel_rfl) ((K.Own.rowE 0 f29 p7 (fun _ => rfl)).ld (m1 - 1) (by omega) 0 _ rfl)) ?_
        refine K.RW.q rfl (by kernel_rfl) (K.QR.k (v := .int .i64 (((l.getD k d3).at_ : Int) / 8)) (by kernel_rfl)) ?_
        by_cases h55 : ((linesTo l k).getD (m1 - 1) 0 : Int) = (((l.getD k d3).at_ : Int) / 8 : Int)
        ·  -- yes
          refine K.RW.q rfl (by kernel_rfl) (K.QR.nice (v := .bool (((linesTo l k).getD (m1 - 1) 0 : Int) != (((l.getD k d3).at_ : Int) / 8 : Int))) (by kernel_rfl) (congrArg Value.bool (bne_eq_false_iff_eq.2 h55))) ?_
          refine K.RW.q rfl rfl (K.QR.k (v := .bool false) (by kernel_rfl)) ?_
          refine K.RW.nil ?_
          refine K.thn_normal ?_
          refine K.KW.ifF rfl ?_
          refine K.KW.skip ?_
          refine K.blk_normal ?_
          refine K.thn_normal ?_
          -- region 8 diff.go:96
          refine K.KW.region ?_
          refine K.RW.q rfl rfl (K.QR.n64 ((((k : Nat) : Int) : Int) + (1 : Int)) ((k + 1 : Nat) : Int) (by kernel_rfl) (by omega)) ?_
          refine K.RW.q rfl rfl (K.QR.k (v := .int .i64 ((k + 1 : Nat) : Int)) (by kernel_rfl)) ?_
          refine K.RW.nil ?_
          refine K.thn_normal ?_
          refine ⟨_, ?_, k + 1, (some ⟨b51, 0, none⟩), m1, c1, rfl, ⟨by rfl, by rfl, by rfl, by rfl, by rfl, by rfl, trivial⟩, (by omega), ((by first | (rw [linesTo_new (by unfold newLn; omega)]; exact p7) | (rw [linesTo_old (by unfold newLn; omega)]; exact p7))), (by omega), c27, (by first | (rw [linesTo_new (by unfold newLn; omega)]; exact f29) | (rw [linesTo_old (by unfold newLn; omega)]; exact f29))⟩
          omega
        ·  -- no
          refine K.RW.q rfl (by kernel_rfl) (K.QR.nice (v := .bool (((linesTo l k).getD (m1 - 1) 0 : Int) != (((l.getD k d3).at_ : Int) / 8 : Int))) (by kernel_rfl) (congrArg Value.bool (bne_iff_ne.2 h55))) ?_
          refine K.RW.q rfl rfl (K.QR.k (v := .bool true) (by kernel_rfl)) ?_
          refine K.RW.nil ?_
          refine K.thn_normal ?_
          refine K.KW.ifT rfl ?_
          -- region 7 diff.go:99
          refine K.KW.region ?_
          refine K.RW.q rfl rfl (K.QR.k (v := .slice (some ⟨b51, 0, none⟩) m1 c1) (by kernel_rfl)) ?_
          refine K.RW.q rfl rfl (K.QR.k (v := .int .i64 (((l.getD k d3).at_ : Int) / 8)) (by kernel_rfl)) ?_
          refine K.RW.l rfl (K.OW.bs rfl [(0, .int .i64 (((l.getD k d3).at_ : Int) / 8))] [.int .i64 (((l.getD k d3).at_ : Int) / 8)] rfl rfl (fun w => K.bs_run (P := Try.prog) w 56 3 1 _ _ Try.underlying56 (by kernel_rfl)) ?_) 
          intro w56 r57 hr58 e59 hs60 b61
          have c62 := c27.no e59
          have z63 := c62.size
          have f64 := f29.no e59
          have f65 := b26.no e59
          have ap66 : ∀ k, K.Ow (some ⟨b51, 0, none⟩) k → ¬ k = r57 := fun k hk he => absurd (f29.lt k hk) (by omega)
          refine K.RW.l rfl (K.OW.app (P := Try.prog) (xs := ((linesTo l k)).flatMap cI64) (z := .int .i64 0) (size := 1) (bytes := 8) rfl [.int .i64 (((l.getD k d3).at_ : Int) / 8)] rfl rfl f64 rfl Try.underlying56 (by kernel_rfl) rfl (by decide) (by rfl) (fun j u hj => (by rw [Nat.zero_add]; exact b61.cell hj)) (K.one_cells (by rfl)) (by unfold maxLen; omega) (by omega) (by omega) ?_) 
          intro a67 cap68 w69 e70 o71
          have c72 := c62.trans e70 (fun i hi hy => absurd (f64.base_le i hy) (by omega))
          have z73 := c72.size
          have f74 := f65.chg e70 (fun hk => f64.ne_ty f65 (by decide) _ hk rfl)
          have o71t := K.Own.snoc (c := cI64) (L := (linesTo l k)) (((l.getD k d3).at_ : Int) / 8 : Int) rfl o71
          have ln75 : (((linesTo l k) ++ [(((l.getD k d3).at_ : Int) / 8 : Int)])).length = m1 + 1 := by rw [List.length_append, p7]; rfl
          refine K.RW.q rfl rfl (K.QR.k (v := .slice a67 (m1 + 1) cap68) (by kernel_rfl)) ?_
          refine K.RW.nil ?_
          refine K.blk_normal ?_
          refine K.thn_normal ?_
          -- region 8 diff.go:96
          refine K.KW.region ?_
          refine K.RW.q rfl rfl (K.QR.n64 ((((k : Nat) : Int) : Int) + (1 : Int)) ((k + 1 : Nat) : Int) (by kernel_rfl) (by omega)) ?_
          refine K.RW.q rfl rfl (K.QR.k (v := .int .i64 ((k + 1 : Nat) : Int)) (by kernel_rfl)) ?_
          refine K.RW.nil ?_
          refine K.thn_normal ?_
          refine ⟨_, ?_, k + 1, a67, m1 + 1, cap68, rfl, ⟨by rfl, by rfl, by rfl, by rfl, by rfl, by rfl, trivial⟩, (by omega), ((by first | (rw [linesTo_new (by unfold newLn; omega)]; exact ln75) | (rw [linesTo_old (by unfold newLn; omega)]; exact ln75))), (by omega), c72, (by first | (rw [linesTo_new (by unfold newLn; omega)]; exact o71t) | (rw [linesTo_old (by unfold newLn; omega)]; exact o71t))⟩
          omega
    ·  -- no
      refine K.RW.q rfl rfl (K.QR.nice (v := .bool (decide ((((k : Nat) : Int) : Int) < (((l.length : Nat) : Int) : Int)))) (by kernel_rfl) (congrArg Value.bool (decide_eq_false h11))) ?_
      refine K.RW.nil ?_
      refine K.thn_normal ?_
      refine K.KW.seq ?_
      refine K.KW.ifF rfl ?_
      refine K.KW.exit ?_
      refine K.thn_exit ?_
      refine K.thn_exit ?_
      refine K.blk_hit ?_
      refine K.thn_normal ?_
      refine K.KW.seq ?_
      -- region 9 diff.go:102
      refine K.KW.region ?_
      refine K.RW.q rfl rfl (K.QR.k (v := .slice r m1 c1) (by kernel_rfl)) ?_
      refine K.RW.q rfl rfl (K.QR.k (v := .slice r m1 c1) (by kernel_rfl)) ?_
      refine K.RW.nil ?_
      refine K.thn_normal ?_
      refine K.KW.ret ?_
      refine ⟨.inr rfl, (.slice r m1 c1), K.res1 rfl rfl, ?_⟩
      obtain rfl : k = l.length := by omega
      exact ⟨_, _, _, rfl, c5, f9, p7⟩

end Go.Proofs.Ytcmlompigmhddaa
