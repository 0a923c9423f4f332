/- Contracts of the references of layer 34 and of diff.Lines. -/
import Derived.Test.YtcmlompigmhddaaFdlaw
namespace Go.Proofs.Ytcmlompigmhddaa
open Go.RowKit
set_option linter.unusedVariables false
attribute [local irreducible] K.KW K.RW K.DW K.OW K.QR K.KC

/-- what is known behind k changes -/
theorem applyTo_facts {xs : List Int} {l : List Chg3} (hr : right l = true) (hin : ∀ i, i < l.length → (l.getD i d3).at_ < xs.length) : ∀ k ys, k ≤ l.length → applyTo xs l k = some ys →
    ys.length = xs.length ∧ (∀ j : Nat, (∀ i, i < k → (l.getD i d3).at_ ≠ j) → ys.getD j 0 = xs.getD j 0) ∧ (∀ i, i < k → ys.getD (l.getD i d3).at_.toNat 0 = (l.getD i d3).new) ∧ (∀ i, i < k → xs.getD (l.getD i d3).at_.toNat 0 = (l.getD i d3).old)
  | 0, ys, _, h => by
    obtain rfl : xs = ys := Option.some.inj h
    exact ⟨rfl, fun _ _ => rfl, fun i hi => by omega, fun i hi => by omega⟩
  | k + 1, ys, hk, h => by
    cases hz : applyTo xs l k with
    | none => rw [show applyTo xs l (k + 1) = (applyTo xs l k).bind _ from rfl, hz] at h; cases h
    | some zs =>
      obtain ⟨h1, h2, h3, h4⟩ := applyTo_facts hr hin k zs (by omega) hz
      have h5 : (if zs.getD (l.getD k d3).at_.toNat 0 = (l.getD k d3).old then some (zs.set (l.getD k d3).at_.toNat (l.getD k d3).new) else none) = some ys := by
        rw [show applyTo xs l (k + 1) = (applyTo xs l k).bind _ from rfl, hz] at h; exact h
      split at h5
      case isFalse => cases h5
      case isTrue he =>
        obtain rfl : zs.set (l.getD k d3).at_.toNat (l.getD k d3).new = ys := Option.some.inj h5
        have hk0 := right_ge hr (k := k) (by omega)
        have hk1 := hin k (by omega)
        have hlt : ∀ i, i < k → (l.getD i d3).at_ < (l.getD k d3).at_ := fun i hi => right_lt hr (by omega) hi
        have hset : ∀ j, (zs.set (l.getD k d3).at_.toNat (l.getD k d3).new).getD j 0 = if j = (l.getD k d3).at_.toNat then (l.getD k d3).new else zs.getD j 0 := fun j => by
          rw [List.getD_eq_getElem?_getD, List.getElem?_set]
          by_cases hj : (l.getD k d3).at_.toNat = j
          · rw [if_pos hj, if_pos hj.symm, if_pos (by omega)]; rfl
          · rw [if_neg hj, if_neg (fun h => hj h.symm), List.getD_eq_getElem?_getD]
        refine ⟨by rw [List.length_set]; exact h1, fun j hj => ?_, fun i hi => ?_, fun i hi => ?_⟩
        · rw [hset, if_neg (fun e => hj k (by omega) (by omega))]
          exact h2 j fun i hi => hj i (by omega)
        · rw [hset]
          by_cases hik : i = k
          · subst hik; rw [if_pos rfl]
          · have := hlt i (by omega)
            have h0 := right_ge hr (k := i) (by omega)
            rw [if_neg (by omega)]
            exact h3 i (by omega)
        · by_cases hik : i = k
          · subst hik
            rw [← he]
            exact (h2 _ fun j hj => by have := hlt j hj; omega).symm
          · exact h4 i (by omega)
theorem applyTo_some {xs : List Int} {l : List Chg3} (hr : right l = true) (hin : ∀ i, i < l.length → (l.getD i d3).at_ < xs.length) : ∀ k, k ≤ l.length → (∀ i, i < k → xs.getD (l.getD i d3).at_.toNat 0 = (l.getD i d3).old) → ∃ ys, applyTo xs l k = some ys
  | 0, _, _ => ⟨xs, rfl⟩
  | k + 1, hk, h => by
    obtain ⟨zs, hz⟩ := applyTo_some hr hin k (by omega) fun i hi => h i (by omega)
    obtain ⟨_, h2, _, _⟩ := applyTo_facts hr hin k zs (by omega) hz
    have h0 := right_ge hr (k := k) (by omega)
    refine ⟨_, applyTo_succ hz ?_⟩
    rw [h2 _ fun i hi => by have := right_lt hr (j := i) (k := k) (by omega) hi; omega]
    exact h k (by omega)
/-- the words behind a patch, by place -/
def outTo (xs : List Int) (l : List Chg3) (ys : List Int) (i : Nat) : Prop :=
  ys.length = i ∧ (∀ j, j < i → (∀ k, k < l.length → (l.getD k d3).at_ ≠ j) → ys.getD j 0 = xs.getD j 0) ∧ (∀ k, k < l.length → (l.getD k d3).at_ < i → ys.getD (l.getD k d3).at_.toNat 0 = (l.getD k d3).new ∧ xs.getD (l.getD k d3).at_.toNat 0 = (l.getD k d3).old)
theorem outTo_zero {xs : List Int} {l : List Chg3} (hr : right l = true) : outTo xs l [] 0 :=
  ⟨rfl, fun j hj => by omega, fun k hk h => by have := right_ge hr hk; omega⟩
theorem getD_snoc_lt {ys : List Int} {v : Int} {j : Nat} (h : j < ys.length) : (ys ++ [v]).getD j 0 = ys.getD j 0 := by
  rw [List.getD_eq_getElem?_getD, List.getElem?_append_left h, List.getD_eq_getElem?_getD]
theorem getD_snoc_eq {ys : List Int} {v : Int} : (ys ++ [v]).getD ys.length 0 = v := by
  rw [List.getD_eq_getElem?_getD, List.getElem?_append_right (Nat.le_refl _)]; simp
theorem outTo_old {xs : List Int} {l : List Chg3} {ys : List Int} {i : Nat} (hr : right l = true) (h : outTo xs l ys i) (hn : ∀ k, k < l.length → (l.getD k d3).at_ ≠ i) : outTo xs l (ys ++ [xs.getD i 0]) (i + 1) := by
  obtain ⟨h1, h2, h3⟩ := h
  refine ⟨by rw [List.length_append, h1]; rfl, fun j hj hk => ?_, fun k hk hk2 => ?_⟩
  · by_cases hji : j = i
    · have e := getD_snoc_eq (ys := ys) (v := xs.getD i 0)
      rw [h1] at e; rw [hji]; exact e
    · rw [getD_snoc_lt (by omega)]; exact h2 j (by omega) hk
  · have := hn k hk; have h0 := right_ge hr hk
    rw [getD_snoc_lt (by omega)]; exact h3 k hk (by omega)
theorem outTo_new {xs : List Int} {l : List Chg3} {ys : List Int} {i k : Nat} (hr : right l = true) (h : outTo xs l ys i) (hk : k < l.length) (ha : (l.getD k d3).at_ = i) (ho : (l.getD k d3).old = xs.getD i 0) : outTo xs l (ys ++ [(l.getD k d3).new]) (i + 1) := by
  obtain ⟨h1, h2, h3⟩ := h
  have huniq : ∀ m, m < l.length → (l.getD m d3).at_ = i → m = k := fun m hm e => by
    rcases Nat.lt_trichotomy m k with hl | hl | hl
    · have := right_lt hr hk hl; omega
    · exact hl
    · have := right_lt hr hm hl; omega
  refine ⟨by rw [List.length_append, h1]; rfl, fun j hj hn => ?_, fun m hm hm2 => ?_⟩
  · have : j ≠ i := fun e => hn k hk (by rw [ha, e])
    rw [getD_snoc_lt (by omega)]; exact h2 j (by omega) hn
  · have h0 := right_ge hr hm
    by_cases hmi : (l.getD m d3).at_ = i
    · obtain rfl := huniq m hm hmi
      rw [hmi, Int.toNat_natCast]
      refine ⟨?_, ho.symm⟩
      have e := getD_snoc_eq (ys := ys) (v := (l.getD m d3).new)
      rw [h1] at e; exact e
    · rw [getD_snoc_lt (by omega)]; exact h3 m hm (by omega)
theorem list_ext_getD {xs ys : List Int} (hl : xs.length = ys.length) (h : ∀ j, j < xs.length → xs.getD j 0 = ys.getD j 0) : xs = ys := eq_of_upTo hl rfl h
theorem apply_out {xs : List Int} {l : List Chg3} {ys : List Int} {i : Nat} (hr : right l = true) (hin : ∀ i, i < l.length → (l.getD i d3).at_ < xs.length) (h : outTo xs l ys i) (hi : i = xs.length) : apply xs l = (0, ys) := by
  subst hi
  obtain ⟨h1, h2, h3⟩ := h
  obtain ⟨zs, hz⟩ := applyTo_some hr hin l.length (Nat.le_refl _) fun i hi => (h3 i hi (hin i hi)).2
  obtain ⟨g1, g2, g3, _⟩ := applyTo_facts hr hin l.length zs (Nat.le_refl _) hz
  have : zs = ys := by
    refine list_ext_getD (by omega) fun j hj => ?_
    by_cases hk : ∀ k, k < l.length → (l.getD k d3).at_ ≠ j
    · rw [g2 j hk, h2 j (by omega) hk]
    · simp only [Classical.not_forall, Decidable.not_not] at hk
      obtain ⟨k, hk, e⟩ := hk
      have e2 : j = (l.getD k d3).at_.toNat := by omega
      rw [e2, g3 k hk, (h3 k hk (by omega)).1]
  subst this
  exact apply_0 hr (fun ⟨h5, h6⟩ => by have := hin (l.length - 1) (by omega); omega) hz
theorem apply_5' {xs : List Int} {l : List Chg3} {i : Nat} (hr : right l = true) (hi : i < l.length) (h : (l.getD i d3).at_ ≥ xs.length) : apply xs l = (5, []) :=
  apply_5 hr ⟨by omega, by have := right_le_last hr hi; omega⟩
theorem apply_9' {xs : List Int} {l : List Chg3} {i k : Nat} (hr : right l = true) (hin : ∀ i, i < l.length → (l.getD i d3).at_ < xs.length) (hk : k < l.length) (ha : (l.getD k d3).at_ = i) (ho : ¬ (l.getD k d3).old = xs.getD i 0) : apply xs l = (9, []) := by
  have hn : ¬ (0 < l.length ∧ (l.getD (l.length - 1) d3).at_ ≥ xs.length) := fun ⟨h5, h6⟩ => by have := hin (l.length - 1) (by omega); omega
  cases hz : applyTo xs l l.length with
  | none => unfold apply; rw [if_neg (by rw [hr]; simp), if_neg hn, hz]
  | some zs =>
    obtain ⟨_, _, _, h4⟩ := applyTo_facts hr hin l.length zs (Nat.le_refl _) hz
    have := h4 k hk
    rw [ha, Int.toNat_natCast] at this
    exact absurd this.symm ho

set_option maxHeartbeats 1000000 in
set_option maxRecDepth 100000 in
theorem rright_ok (a : Option Addr) (cap : Nat) (l : List Chg3) (w0 : World) (hm : l.length ≤ 9223372036854775807) (hl : RCh w0 a l) :
    K.KC Try.prog 31 #[.slice a l.length cap] w0 (fun v w' => v = .bool (right l) ∧ K.Chg K.No w0 w') := by
  refine K.KC.mk (n := 47) Try.func31 rfl rfl [.slice a l.length cap] rfl rfl ?_
  refine K.KW.seq ?_
  -- region 0 ref.go:12
  refine K.KW.region ?_
  refine K.RW.q rfl rfl (K.QR.k (v := .bool false) (by kernel_rfl)) ?_
  refine K.RW.nil ?_
  refine K.thn_normal ?_
  refine K.KW.seq ?_
  refine K.KW.seq ?_
  -- region 1 ref.go:13
  refine K.KW.region ?_
  refine K.RW.q rfl rfl (K.QR.k (v := .int .i64 0) (by kernel_rfl)) ?_
  refine K.RW.nil ?_
  refine K.thn_normal ?_
  refine K.KW.block ?_
  refine K.KW.loop (fun m_ F_ w_1 => ∃ (k : Nat), m_ = l.length - k ∧ K.Sl F_ [(0, .slice a l.length cap), (3, .int .i64 ((k : Nat) : Int))] ∧ k ≤ l.length ∧ rightTo l k ∧ K.Chg K.No w0 w_1) ((fun (k : Nat) => l.length - k) 0) ?_ ?_
  · -- the loop begins
    exact ⟨0, rfl, ⟨by rfl, by rfl, trivial⟩, (by omega), (rightTo_zero _), (K.Chg.refl _)⟩
  · -- a round
    intro m_2 F_3 w_1 hI
    obtain ⟨k, rfl, sl_4, p_6, p_7, c_5⟩ := hI
    rw [← K.Sl.puts sl_4]; clear sl_4
    have z_8 := c_5.size
    refine K.KW.seq ?_
    refine K.KW.seq ?_
    -- region 2 ref.go:13
    refine K.KW.region ?_
    refine K.RW.q rfl rfl (K.QR.k (v := .int .i64 ((k : Nat) : Int)) (by kernel_rfl)) ?_
    refine K.RW.q rfl rfl (K.QR.k (v := .slice a l.length cap) (by kernel_rfl)) ?_
    refine K.RW.q rfl rfl (K.QR.len (P := Try.prog) rfl rfl Try.underlying53) ?_
    by_cases h_9 : (((k : Nat) : Int) : Int) < (((l.length : Nat) : Int) : Int)
    ·  -- yes
      refine K.RW.q rfl rfl (K.QR.nice (v := .bool (decide ((((k : Nat) : Int) : Int) < (((l.length : Nat) : Int) : Int)))) (by kernel_rfl) (congrArg Value.bool (decide_eq_true h_9))) ?_
      refine K.RW.nil ?_
      refine K.thn_normal ?_
      refine K.KW.ifT rfl ?_
      refine K.KW.skip ?_
      refine K.thn_normal ?_
      refine K.KW.seq ?_
      refine K.KW.block ?_
      refine K.KW.seq ?_
      -- region 4 ref.go:14
      refine K.KW.drawn (fun w => K.Chg K.No w0 w) (by kernel_rfl) ?_
      intro w_10 e_11 hs_12
      have c_14 := c_5.no e_11
      have z_15 := c_14.size
      have hS_13 : (fun w => K.Chg K.No w0 w) w_10 := c_14
      refine K.DW.q 0 (by kernel_rfl) rfl rfl (by kernel_rfl) rfl (fun w hS => K.QR.k (v := .slice a l.length cap) (by kernel_rfl)) hS_13 ?_
      refine K.DW.q 1 (by kernel_rfl) rfl rfl (by kernel_rfl) rfl (fun w hS => K.QR.k (v := .int .i64 ((k : Nat) : Int)) (by kernel_rfl)) hS_13 ?_
      obtain ⟨b_16, of_17, rfl, _⟩ := hl.at_ (by omega)
      refine K.DW.q 2 (by kernel_rfl) rfl rfl (by kernel_rfl) rfl (fun w hS => K.QR.ix (of_17 + k * 3) 3 rfl rfl rfl Try.underlying53 (by kernel_rfl) (by omega) (by simp)) hS_13 ?_
      refine K.DW.q 3 (by kernel_rfl) rfl rfl (by kernel_rfl) rfl (fun w hS => K.QR.k (v := .pointer (some ⟨b_16, of_17 + k * 3, none⟩)) (by kernel_rfl)) hS_13 ?_
      refine K.DW.q 4 (by kernel_rfl) rfl rfl (by kernel_rfl) rfl (fun w hS => K.QR.ld1 (v := .int .i64 ((l.getD k d3).at_)) rfl rfl (by kernel_rfl) (hS.cell (hl.ld k (by omega) 0 _ rfl) id)) hS_13 ?_
      by_cases h_18 : ((l.getD k d3).at_ : Int) < (0 : Int)
      ·  -- yes
        refine K.DW.q 5 (by kernel_rfl) rfl rfl (by kernel_rfl) rfl (fun w hS => K.QR.nice (v := .bool (decide (((l.getD k d3).at_ : Int) < (0 : Int)))) (by kernel_rfl) (congrArg Value.bool (decide_eq_true h_18))) hS_13 ?_
        refine K.DW.q 6 (by kernel_rfl) rfl rfl (by kernel_rfl) rfl (fun w hS => K.QR.k (v := .bool true) (by kernel_rfl)) hS_13 ?_
        refine K.DW.skip 7 (by kernel_rfl) rfl rfl (by kernel_rfl) (by kernel_rfl) hS_13 ?_
        refine K.DW.skip 8 (by kernel_rfl) rfl rfl (by kernel_rfl) (by kernel_rfl) hS_13 ?_
        refine K.DW.skip 9 (by kernel_rfl) rfl rfl (by kernel_rfl) (by kernel_rfl) hS_13 ?_
        refine K.DW.skip 10 (by kernel_rfl) rfl rfl (by kernel_rfl) (by kernel_rfl) hS_13 ?_
        refine K.DW.skip 11 (by kernel_rfl) rfl rfl (by kernel_rfl) (by kernel_rfl) hS_13 ?_
        refine K.DW.skip 12 (by kernel_rfl) rfl rfl (by kernel_rfl) (by kernel_rfl) hS_13 ?_
        refine K.DW.skip 13 (by kernel_rfl) rfl rfl (by kernel_rfl) (by kernel_rfl) hS_13 ?_
        refine K.DW.skip 14 (by kernel_rfl) rfl rfl (by kernel_rfl) (by kernel_rfl) hS_13 ?_
        refine K.DW.skip 15 (by kernel_rfl) rfl rfl (by kernel_rfl) (by kernel_rfl) hS_13 ?_
        refine K.DW.skip 16 (by kernel_rfl) rfl rfl (by kernel_rfl) (by kernel_rfl) hS_13 ?_
        refine K.DW.skip 17 (by kernel_rfl) rfl rfl (by kernel_rfl) (by kernel_rfl) hS_13 ?_
        refine K.DW.q 18 (by kernel_rfl) rfl rfl (by kernel_rfl) rfl (fun w hS => K.QR.k (v := .bool true) (by kernel_rfl)) hS_13 ?_
        refine K.DW.q 19 (by kernel_rfl) rfl rfl (by kernel_rfl) rfl (fun w hS => K.QR.k (v := .bool true) (by kernel_rfl)) hS_13 ?_
        refine K.DW.skip 20 (by kernel_rfl) rfl rfl (by kernel_rfl) (by kernel_rfl) hS_13 ?_
        refine K.DW.skip 21 (by kernel_rfl) rfl rfl (by kernel_rfl) (by kernel_rfl) hS_13 ?_
        refine K.DW.skip 22 (by kernel_rfl) rfl rfl (by kernel_rfl) (by kernel_rfl) hS_13 ?_
        refine K.DW.skip 23 (by kernel_rfl) rfl rfl (by kernel_rfl) (by kernel_rfl) hS_13 ?_
        refine K.DW.skip 24 (by kernel_rfl) rfl rfl (by kernel_rfl) (by kernel_rfl) hS_13 ?_
        refine K.DW.skip 25 (by kernel_rfl) rfl rfl (by kernel_rfl) (by kernel_rfl) hS_13 ?_
        refine K.DW.skip 26 (by kernel_rfl) rfl rfl (by kernel_rfl) (by kernel_rfl) hS_13 ?_
        refine K.DW.skip 27 (by kernel_rfl) rfl rfl (by kernel_rfl) (by kernel_rfl) hS_13 ?_
        refine K.DW.skip 28 (by kernel_rfl) rfl rfl (by kernel_rfl) (by kernel_rfl) hS_13 ?_
        refine K.DW.skip 29 (by kernel_rfl) rfl rfl (by kernel_rfl) (by kernel_rfl) hS_13 ?_
        refine K.DW.skip 30 (by kernel_rfl) rfl rfl (by kernel_rfl) (by kernel_rfl) hS_13 ?_
        refine K.DW.skip 31 (by kernel_rfl) rfl rfl (by kernel_rfl) (by kernel_rfl) hS_13 ?_
        refine K.DW.skip 32 (by kernel_rfl) rfl rfl (by kernel_rfl) (by kernel_rfl) hS_13 ?_
        refine K.DW.skip 33 (by kernel_rfl) rfl rfl (by kernel_rfl) (by kernel_rfl) hS_13 ?_
        refine K.DW.skip 34 (by kernel_rfl) rfl rfl (by kernel_rfl) (by kernel_rfl) hS_13 ?_
        refine K.DW.skip 35 (by kernel_rfl) rfl rfl (by kernel_rfl) (by kernel_rfl) hS_13 ?_
        refine K.DW.q 36 (by kernel_rfl) rfl rfl (by kernel_rfl) rfl (fun w hS => K.QR.k (v := .bool true) (by kernel_rfl)) hS_13 ?_
        refine K.DW.done (by kernel_rfl) ?_
        refine K.thn_normal ?_
        refine K.KW.ifT rfl ?_
        refine K.KW.seq ?_
        -- region 5 ref.go:15
        refine K.KW.region ?_
        refine K.RW.q rfl rfl (K.QR.k (v := .bool false) (by kernel_rfl)) ?_
        refine K.RW.nil ?_
        refine K.thn_normal ?_
        refine K.KW.ret ?_
        refine K.blk_ret ?_
        refine K.thn_ret ?_
        refine K.thn_ret ?_
        refine K.blk_ret ?_
        refine K.thn_ret ?_
        refine ⟨.inr rfl, (.bool false), K.res1 rfl rfl, ?_⟩
        exact ⟨by first | exact right_t (by assumption) (by omega) | exact right_f (k := k) (by omega) (by unfold rightAt; omega), c_14⟩
      ·  -- no
        refine K.DW.q 5 (by kernel_rfl) rfl rfl (by kernel_rfl) rfl (fun w hS => K.QR.nice (v := .bool (decide (((l.getD k d3).at_ : Int) < (0 : Int)))) (by kernel_rfl) (congrArg Value.bool (decide_eq_false h_18))) hS_13 ?_
        refine K.DW.q 6 (by kernel_rfl) rfl rfl (by kernel_rfl) rfl (fun w hS => K.QR.k (v := .bool false) (by kernel_rfl)) hS_13 ?_
        refine K.DW.q 7 (by kernel_rfl) rfl rfl (by kernel_rfl) (by kernel_rfl) (fun w hS => K.QR.k (v := .slice (some ⟨b_16, of_17, none⟩) l.length cap) (by kernel_rfl)) hS_13 ?_
        refine K.DW.q 8 (by kernel_rfl) rfl rfl (by kernel_rfl) (by kernel_rfl) (fun w hS => K.QR.k (v := .int .i64 ((k : Nat) : Int)) (by kernel_rfl)) hS_13 ?_
        refine K.DW.q 9 (by kernel_rfl) rfl rfl (by kernel_rfl) (by kernel_rfl) (fun w hS => K.QR.ix (of_17 + k * 3) 3 rfl rfl rfl Try.underlying53 (by kernel_rfl) (by omega) (by simp)) hS_13 ?_
        refine K.DW.q 10 (by kernel_rfl) rfl rfl (by kernel_rfl) (by kernel_rfl) (fun w hS => K.QR.k (v := .pointer (some ⟨b_16, of_17 + k * 3 + 1, none⟩)) (by kernel_rfl)) hS_13 ?_
        refine K.DW.q 11 (by kernel_rfl) rfl rfl (by kernel_rfl) (by kernel_rfl) (fun w hS => K.QR.ld1 (v := .int .u64 ((l.getD k d3).old)) rfl rfl (by kernel_rfl) (hS.cell (hl.ld k (by omega) 1 _ rfl) id)) hS_13 ?_
        refine K.DW.q 12 (by kernel_rfl) rfl rfl (by kernel_rfl) (by kernel_rfl) (fun w hS => K.QR.k (v := .slice (some ⟨b_16, of_17, none⟩) l.length cap) (by kernel_rfl)) hS_13 ?_
        refine K.DW.q 13 (by kernel_rfl) rfl rfl (by kernel_rfl) (by kernel_rfl) (fun w hS => K.QR.k (v := .int .i64 ((k : Nat) : Int)) (by kernel_rfl)) hS_13 ?_
        refine K.DW.q 14 (by kernel_rfl) rfl rfl (by kernel_rfl) (by kernel_rfl) (fun w hS => K.QR.ix (of_17 + k * 3) 3 rfl rfl rfl Try.underlying53 (by kernel_rfl) (by omega) (by simp)) hS_13 ?_
        refine K.DW.q 15 (by kernel_rfl) rfl rfl (by kernel_rfl) (by kernel_rfl) (fun w hS => K.QR.k (v := .pointer (some ⟨b_16, of_17 + k * 3 + 2, none⟩)) (by kernel_rfl)) hS_13 ?_
        refine K.DW.q 16 (by kernel_rfl) rfl rfl (by kernel_rfl) (by kernel_rfl) (fun w hS => K.QR.ld1 (v := .int .u64 ((l.getD k d3).new)) rfl rfl (by kernel_rfl) (hS.cell (hl.ld k (by omega) 2 _ rfl) id)) hS_13 ?_
        by_cases h_19 : ((l.getD k d3).old : Int) = ((l.getD k d3).new : Int)
        ·  -- yes
          refine K.DW.q 17 (by kernel_rfl) rfl rfl (by kernel_rfl) (by kernel_rfl) (fun w hS => K.QR.nice (v := .bool (((l.getD k d3).old : Int) == ((l.getD k d3).new : Int))) (by kernel_rfl) (congrArg Value.bool (beq_iff_eq.2 h_19))) hS_13 ?_
          refine K.DW.q 18 (by kernel_rfl) rfl rfl (by kernel_rfl) rfl (fun w hS => K.QR.k (v := .bool true) (by kernel_rfl)) hS_13 ?_
          refine K.DW.q 19 (by kernel_rfl) rfl rfl (by kernel_rfl) rfl (fun w hS => K.QR.k (v := .bool true) (by kernel_rfl)) hS_13 ?_
          refine K.DW.skip 20 (by kernel_rfl) rfl rfl (by kernel_rfl) (by kernel_rfl) hS_13 ?_
          refine K.DW.skip 21 (by kernel_rfl) rfl rfl (by kernel_rfl) (by kernel_rfl) hS_13 ?_
          refine K.DW.skip 22 (by kernel_rfl) rfl rfl (by kernel_rfl) (by kernel_rfl) hS_13 ?_
          refine K.DW.skip 23 (by kernel_rfl) rfl rfl (by kernel_rfl) (by kernel_rfl) hS_13 ?_
          refine K.DW.skip 24 (by kernel_rfl) rfl rfl (by kernel_rfl) (by kernel_rfl) hS_13 ?_
          refine K.DW.skip 25 (by kernel_rfl) rfl rfl (by kernel_rfl) (by kernel_rfl) hS_13 ?_
          refine K.DW.skip 26 (by kernel_rfl) rfl rfl (by kernel_rfl) (by kernel_rfl) hS_13 ?_
          refine K.DW.skip 27 (by kernel_rfl) rfl rfl (by kernel_rfl) (by kernel_rfl) hS_13 ?_
          refine K.DW.skip 28 (by kernel_rfl) rfl rfl (by kernel_rfl) (by kernel_rfl) hS_13 ?_
          refine K.DW.skip 29 (by kernel_rfl) rfl rfl (by kernel_rfl) (by kernel_rfl) hS_13 ?_
          refine K.DW.skip 30 (by kernel_rfl) rfl rfl (by kernel_rfl) (by kernel_rfl) hS_13 ?_
          refine K.DW.skip 31 (by kernel_rfl) rfl rfl (by kernel_rfl) (by kernel_rfl) hS_13 ?_
          refine K.DW.skip 32 (by kernel_rfl) rfl rfl (by kernel_rfl) (by kernel_rfl) hS_13 ?_
          refine K.DW.skip 33 (by kernel_rfl) rfl rfl (by kernel_rfl) (by kernel_rfl) hS_13 ?_
          refine K.DW.skip 34 (by kernel_rfl) rfl rfl (by kernel_rfl) (by kernel_rfl) hS_13 ?_
          refine K.DW.skip 35 (by kernel_rfl) rfl rfl (by kernel_rfl) (by kernel_rfl) hS_13 ?_
          refine K.DW.q 36 (by kernel_rfl) rfl rfl (by kernel_rfl) rfl (fun w hS => K.QR.k (v := .bool true) (by kernel_rfl)) hS_13 ?_
          refine K.DW.done (by kernel_rfl) ?_
          refine K.thn_normal ?_
          refine K.KW.ifT rfl ?_
          refine K.KW.seq ?_
          -- region 5 ref.go:15
          refine K.KW.region ?_
          refine K.RW.q rfl rfl (K.QR.k (v := .bool false) (by kernel_rfl)) ?_
          refine K.RW.nil ?_
          refine K.thn_normal ?_
          refine K.KW.ret ?_
          refine K.blk_ret ?_
          refine K.thn_ret ?_
          refine K.thn_ret ?_
          refine K.blk_ret ?_
          refine K.thn_ret ?_
          refine ⟨.inr rfl, (.bool false), K.res1 rfl rfl, ?_⟩
          exact ⟨by first | exact right_t (by assumption) (by omega) | exact right_f (k := k) (by omega) (by unfold rightAt; omega), c_14⟩
        ·  -- no
          refine K.DW.q 17 (by kernel_rfl) rfl rfl (by kernel_rfl) (by kernel_rfl) (fun w hS => K.QR.nice (v := .bool (((l.getD k d3).old : Int) == ((l.getD k d3).new : Int))) (by kernel_rfl) (congrArg Value.bool (beq_eq_false_iff_ne.2 h_19))) hS_13 ?_
          refine K.DW.q 18 (by kernel_rfl) rfl rfl (by kernel_rfl) rfl (fun w hS => K.QR.k (v := .bool false) (by kernel_rfl)) hS_13 ?_
          refine K.DW.q 19 (by kernel_rfl) rfl rfl (by kernel_rfl) rfl (fun w hS => K.QR.k (v := .bool false) (by kernel_rfl)) hS_13 ?_
          refine K.DW.q 20 (by kernel_rfl) rfl rfl (by kernel_rfl) (by kernel_rfl) (fun w hS => K.QR.k (v := .int .i64 ((k : Nat) : Int)) (by kernel_rfl)) hS_13 ?_
          by_cases h_20 : (((k : Nat) : Int) : Int) > (0 : Int)
          ·  -- yes
            refine K.DW.q 21 (by kernel_rfl) rfl rfl (by kernel_rfl) (by kernel_rfl) (fun w hS => K.QR.nice (v := .bool (decide ((((k : Nat) : Int) : Int) > (0 : Int)))) (by kernel_rfl) (congrArg Value.bool (decide_eq_true h_20))) hS_13 ?_
            refine K.DW.q 22 (by kernel_rfl) rfl rfl (by kernel_rfl) (by kernel_rfl) (fun w hS => K.QR.k (v := .bool true) (by kernel_rfl)) hS_13 ?_
            refine K.DW.q 23 (by kernel_rfl) rfl rfl (by kernel_rfl) (by kernel_rfl) (fun w hS => K.QR.k (v := .slice (some ⟨b_16, of_17, none⟩) l.length cap) (by kernel_rfl)) hS_13 ?_
            refine K.DW.q 24 (by kernel_rfl) rfl rfl (by kernel_rfl) (by kernel_rfl) (fun w hS => K.QR.k (v := .int .i64 ((k : Nat) : Int)) (by kernel_rfl)) hS_13 ?_
            refine K.DW.q 25 (by kernel_rfl) rfl rfl (by kernel_rfl) (by kernel_rfl) (fun w hS => K.QR.n64 ((((k : Nat) : Int) : Int) - (1 : Int)) ((k - 1 : Nat) : Int) (by kernel_rfl) (by omega)) hS_13 ?_
            refine K.DW.q 26 (by kernel_rfl) rfl rfl (by kernel_rfl) (by kernel_rfl) (fun w hS => K.QR.ix (of_17 + (k - 1) * 3) 3 rfl rfl rfl Try.underlying53 (by kernel_rfl) (by omega) (by simp)) hS_13 ?_
            refine K.DW.q 27 (by kernel_rfl) rfl rfl (by kernel_rfl) (by kernel_rfl) (fun w hS => K.QR.k (v := .pointer (some ⟨b_16, of_17 + (k - 1) * 3, none⟩)) (by kernel_rfl)) hS_13 ?_
            refine K.DW.q 28 (by kernel_rfl) rfl rfl (by kernel_rfl) (by kernel_rfl) (fun w hS => K.QR.ld1 (v := .int .i64 ((l.getD (k - 1) d3).at_)) rfl rfl (by kernel_rfl) (hS.cell (hl.ld (k - 1) (by omega) 0 _ rfl) id)) hS_13 ?_
            refine K.DW.q 29 (by kernel_rfl) rfl rfl (by kernel_rfl) (by kernel_rfl) (fun w hS => K.QR.k (v := .slice (some ⟨b_16, of_17, none⟩) l.length cap) (by kernel_rfl)) hS_13 ?_
            refine K.DW.q 30 (by kernel_rfl) rfl rfl (by kernel_rfl) (by kernel_rfl) (fun w hS => K.QR.k (v := .int .i64 ((k : Nat) : Int)) (by kernel_rfl)) hS_13 ?_
            refine K.DW.q 31 (by kernel_rfl) rfl rfl (by kernel_rfl) (by kernel_rfl) (fun w hS => K.QR.ix (of_17 + k * 3) 3 rfl rfl rfl Try.underlying53 (by kernel_rfl) (by omega) (by simp)) hS_13 ?_
            refine K.DW.q 32 (by kernel_rfl) rfl rfl (by kernel_rfl) (by kernel_rfl) (fun w hS => K.QR.k (v := .pointer (some ⟨b_16, of_17 + k * 3, none⟩)) (by kernel_rfl)) hS_13 ?_
            refine K.DW.q 33 (by kernel_rfl) rfl rfl (by kernel_rfl) (by kernel_rfl) (fun w hS => K.QR.ld1 (v := .int .i64 ((l.getD k d3).at_)) rfl rfl (by kernel_rfl) (hS.cell (hl.ld k (by omega) 0 _ rfl) id)) hS_13 ?_
            by_cases h_21 : ((l.getD (k - 1) d3).at_ : Int) ≥ ((l.getD k d3).at_ : Int)
            ·  -- yes
              refine K.DW.q 34 (by kernel_rfl) rfl rfl (by kernel_rfl) (by kernel_rfl) (fun w hS => K.QR.nice (v := .bool (decide (((l.getD (k - 1) d3).at_ : Int) ≥ ((l.getD k d3).at_ : Int)))) (by kernel_rfl) (congrArg Value.bool (decide_eq_true h_21))) hS_13 ?_
              refine K.DW.q 35 (by kernel_rfl) rfl rfl (by kernel_rfl) (by kernel_rfl) (fun w hS => K.QR.k (v := .bool true) (by kernel_rfl)) hS_13 ?_
              refine K.DW.q 36 (by kernel_rfl) rfl rfl (by kernel_rfl) rfl (fun w hS => K.QR.k (v := .bool true) (by kernel_rfl)) hS_13 ?_
              refine K.DW.done (by kernel_rfl) ?_
              refine K.thn_normal ?_
              refine K.KW.ifT rfl ?_
              refine K.KW.seq ?_
              -- region 5 ref.go:15
              refine K.KW.region ?_
              refine K.RW.q rfl rfl (K.QR.k (v := .bool false) (by kernel_rfl)) ?_
              refine K.RW.nil ?_
              refine K.thn_normal ?_
              refine K.KW.ret ?_
              refine K.blk_ret ?_
              refine K.thn_ret ?_
              refine K.thn_ret ?_
              refine K.blk_ret ?_
              refine K.thn_ret ?_
              refine ⟨.inr rfl, (.bool false), K.res1 rfl rfl, ?_⟩
              exact ⟨by first | exact right_t (by assumption) (by omega) | exact right_f (k := k) (by omega) (by unfold rightAt; omega), c_14⟩
            ·  -- no
              refine K.DW.q 34 (by kernel_rfl) rfl rfl (by kernel_rfl) (by kernel_rfl) (fun w hS => K.QR.nice (v := .bool (decide (((l.getD (k - 1) d3).at_ : Int) ≥ ((l.getD k d3).at_ : Int)))) (by kernel_rfl) (congrArg Value.bool (decide_eq_false h_21))) hS_13 ?_
              refine K.DW.q 35 (by kernel_rfl) rfl rfl (by kernel_rfl) (by kernel_rfl) (fun w hS => K.QR.k (v := .bool false) (by kernel_rfl)) hS_13 ?_
              refine K.DW.q 36 (by kernel_rfl) rfl rfl (by kernel_rfl) rfl (fun w hS => K.QR.k (v := .bool false) (by kernel_rfl)) hS_13 ?_
              refine K.DW.done (by kernel_rfl) ?_
              refine K.thn_normal ?_
              refine K.KW.ifF rfl ?_
              refine K.KW.skip ?_
              refine K.blk_normal ?_
              refine K.thn_normal ?_
              -- region 3 ref.go:13
              refine K.KW.region ?_
              refine K.RW.q rfl rfl (K.QR.k (v := .int .i64 ((k : Nat) : Int)) (by kernel_rfl)) ?_
              refine K.RW.q rfl rfl (K.QR.n64 ((((k : Nat) : Int) : Int) + (1 : Int)) ((k + 1 : Nat) : Int) (by kernel_rfl) (by omega)) ?_
              refine K.RW.q rfl rfl (K.QR.k (v := .int .i64 ((k + 1 : Nat) : Int)) (by kernel_rfl)) ?_
              refine K.RW.nil ?_
              refine K.thn_normal ?_
              refine ⟨_, ?_, k + 1, rfl, ⟨by rfl, by rfl, trivial⟩, (by omega), (rightTo_succ (by assumption) (by unfold rightAt; omega)), c_14⟩
              omega
          ·  -- no
            refine K.DW.q 21 (by kernel_rfl) rfl rfl (by kernel_rfl) (by kernel_rfl) (fun w hS => K.QR.nice (v := .bool (decide ((((k : Nat) : Int) : Int) > (0 : Int)))) (by kernel_rfl) (congrArg Value.bool (decide_eq_false h_20))) hS_13 ?_
            refine K.DW.q 22 (by kernel_rfl) rfl rfl (by kernel_rfl) (by kernel_rfl) (fun w hS => K.QR.k (v := .bool false) (by kernel_rfl)) hS_13 ?_
            refine K.DW.skip 23 (by kernel_rfl) rfl rfl (by kernel_rfl) (by kernel_rfl) hS_13 ?_
            refine K.DW.skip 24 (by kernel_rfl) rfl rfl (by kernel_rfl) (by kernel_rfl) hS_13 ?_
            refine K.DW.skip 25 (by kernel_rfl) rfl rfl (by kernel_rfl) (by kernel_rfl) hS_13 ?_
            refine K.DW.skip 26 (by kernel_rfl) rfl rfl (by kernel_rfl) (by kernel_rfl) hS_13 ?_
            refine K.DW.skip 27 (by kernel_rfl) rfl rfl (by kernel_rfl) (by kernel_rfl) hS_13 ?_
            refine K.DW.skip 28 (by kernel_rfl) rfl rfl (by kernel_rfl) (by kernel_rfl) hS_13 ?_
            refine K.DW.skip 29 (by kernel_rfl) rfl rfl (by kernel_rfl) (by kernel_rfl) hS_13 ?_
            refine K.DW.skip 30 (by kernel_rfl) rfl rfl (by kernel_rfl) (by kernel_rfl) hS_13 ?_
            refine K.DW.skip 31 (by kernel_rfl) rfl rfl (by kernel_rfl) (by kernel_rfl) hS_13 ?_
            refine K.DW.skip 32 (by kernel_rfl) rfl rfl (by kernel_rfl) (by kernel_rfl) hS_13 ?_
            refine K.DW.skip 33 (by kernel_rfl) rfl rfl (by kernel_rfl) (by kernel_rfl) hS_13 ?_
            refine K.DW.skip 34 (by kernel_rfl) rfl rfl (by kernel_rfl) (by kernel_rfl) hS_13 ?_
            refine K.DW.q 35 (by kernel_rfl) rfl rfl (by kernel_rfl) (by kernel_rfl) (fun w hS => K.QR.k (v := .bool false) (by kernel_rfl)) hS_13 ?_
            refine K.DW.q 36 (by kernel_rfl) rfl rfl (by kernel_rfl) rfl (fun w hS => K.QR.k (v := .bool false) (by kernel_rfl)) hS_13 ?_
            refine K.DW.done (by kernel_rfl) ?_
            refine K.thn_normal ?_
            refine K.KW.ifF rfl ?_
            refine K.KW.skip ?_
            refine K.blk_normal ?_
            refine K.thn_normal ?_
            -- region 3 ref.go:13
            refine K.KW.region ?_
            refine K.RW.q rfl rfl (K.QR.k (v := .int .i64 ((k : Nat) : Int)) (by kernel_rfl)) ?_
            refine K.RW.q rfl rfl (K.QR.n64 ((((k : Nat) : Int) : Int) + (1 : Int)) ((k + 1 : Nat) : Int) (by kernel_rfl) (by omega)) ?_
            refine K.RW.q rfl rfl (K.QR.k (v := .int .i64 ((k + 1 : Nat) : Int)) (by kernel_rfl)) ?_
            refine K.RW.nil ?_
            refine K.thn_normal ?_
            refine ⟨_, ?_, k + 1, rfl, ⟨by rfl, by rfl, trivial⟩, (by omega), (rightTo_succ (by assumption) (by unfold rightAt; omega)), c_14⟩
            omega
    ·  -- no
      refine K.RW.q rfl rfl (K.QR.nice (v := .bool (decide ((((k : Nat) : Int) : Int) < (((l.length : Nat) : Int) : Int)))) (by kernel_rfl) (congrArg Value.bool (decide_eq_false h_9))) ?_
      refine K.RW.nil ?_
      refine K.thn_normal ?_
      refine K.KW.ifF rfl ?_
      refine K.KW.exit ?_
      refine K.thn_exit ?_
      refine K.thn_exit ?_
      refine K.blk_hit ?_
      refine K.thn_normal ?_
      refine K.KW.seq ?_
      -- region 6 ref.go:18
      refine K.KW.region ?_
      refine K.RW.q rfl rfl (K.QR.k (v := .bool true) (by kernel_rfl)) ?_
      refine K.RW.nil ?_
      refine K.thn_normal ?_
      refine K.KW.ret ?_
      refine ⟨.inr rfl, (.bool true), K.res1 rfl rfl, ?_⟩
      exact ⟨by first | exact right_t (by assumption) (by omega) | exact right_f (k := k) (by omega) (by unfold rightAt; omega), c_5⟩

set_option maxHeartbeats 1000000 in
set_option maxRecDepth 100000 in
theorem as_ok (a : Option Addr) (cap : Nat) (l : List Chg3) (w0 : World) (hm : l.length * 24 ≤ 140737488351232) (hl : RCh w0 a l) :
    K.KC Try.prog 30 #[.slice a l.length cap] w0 (fun v w' => ∃ r m c, v = .slice r m c ∧ K.Chg K.No w0 w' ∧ K.Own w' w0.heap.size 97 3 r m c ((l).flatMap chgC) ∧ l.length = m) := by
  refine K.KC.mk (n := 19) Try.func30 rfl rfl [.slice a l.length cap] rfl rfl ?_
  refine K.KW.seq ?_
  -- region 0 law.go:19
  refine K.KW.region ?_
  refine K.RW.q rfl rfl (K.QR.k (v := .slice none 0 0) (by kernel_rfl)) ?_
  refine K.RW.nil ?_
  refine K.thn_normal ?_
  refine K.KW.seq ?_
  -- region 1 law.go:20
  refine K.KW.region ?_
  refine K.RW.q rfl rfl (K.QR.k (v := .slice none 0 0) (by kernel_rfl)) ?_
  refine K.RW.nil ?_
  refine K.thn_normal ?_
  refine K.KW.seq ?_
  refine K.KW.seq ?_
  -- region 2 law.go:21
  refine K.KW.region ?_
  refine K.RW.q rfl rfl (K.QR.k (v := .int .i64 0) (by kernel_rfl)) ?_
  refine K.RW.nil ?_
  refine K.thn_normal ?_
  refine K.KW.block ?_
  refine K.KW.loop (fun m_ F_ w_1 => ∃ (k : Nat) (r : Option Addr) (m1 : Nat) (c1 : Nat), m_ = l.length - k ∧ K.Sl F_ [(0, .slice a l.length cap), (2, .slice none 0 0), (3, .slice r m1 c1), (4, .int .i64 ((k : Nat) : Int))] ∧ k ≤ l.length ∧ (l.take k).length = m1 ∧ m1 = k ∧ K.Chg K.No w0 w_1 ∧ K.Own w_1 w0.heap.size 97 3 r m1 c1 ((l.take k).flatMap chgC)) ((fun (k : Nat) (r : Option Addr) (m1 : Nat) (c1 : Nat) => l.length - k) 0 none 0 0) ?_ ?_
  · -- the loop begins
    exact ⟨0, none, 0, 0, rfl, ⟨by rfl, by rfl, by rfl, by rfl, trivial⟩, (by omega), (by simp), (by omega), (K.Chg.refl _), (by simpa using K.Own.nil _ _ _ _)⟩
  · -- a round
    intro m_2 F_3 w_1 hI
    obtain ⟨k, r, m1, c1, rfl, sl_4, p_6, p_7, p_8, c_5, f_9⟩ := hI
    rw [← K.Sl.puts sl_4]; clear sl_4
    have z_10 := c_5.size
    refine K.KW.seq ?_
    refine K.KW.seq ?_
    -- region 3 law.go:21
    refine K.KW.region ?_
    refine K.RW.q rfl rfl (K.QR.k (v := .int .i64 ((k : Nat) : Int)) (by kernel_rfl)) ?_
    refine K.RW.q rfl rfl (K.QR.k (v := .slice a l.length cap) (by kernel_rfl)) ?_
    refine K.RW.q rfl rfl (K.QR.len (P := Try.prog) rfl rfl Try.underlying42) ?_
    by_cases h_11 : (((k : Nat) : Int) : Int) < (((l.length : Nat) : Int) : Int)
    ·  -- yes
      refine K.RW.q rfl rfl (K.QR.nice (v := .bool (decide ((((k : Nat) : Int) : Int) < (((l.length : Nat) : Int) : Int)))) (by kernel_rfl) (congrArg Value.bool (decide_eq_true h_11))) ?_
      refine K.RW.nil ?_
      refine K.thn_normal ?_
      refine K.KW.ifT rfl ?_
      refine K.KW.skip ?_
      refine K.thn_normal ?_
      refine K.KW.seq ?_
      refine K.KW.block ?_
      -- region 5 law.go:22
      refine K.KW.region ?_
      refine K.RW.q rfl rfl (K.QR.k (v := .slice r m1 c1) (by kernel_rfl)) ?_
      refine K.RW.q rfl rfl (K.QR.k (v := .slice a l.length cap) (by kernel_rfl)) ?_
      refine K.RW.q rfl rfl (K.QR.k (v := .int .i64 ((k : Nat) : Int)) (by kernel_rfl)) ?_
      obtain ⟨b_12, of_13, rfl, _⟩ := hl.at_ (by omega)
      refine K.RW.q rfl rfl (K.QR.ix (of_13 + k * 3) 3 rfl rfl rfl Try.underlying42 (by kernel_rfl) (by omega) (by simp)) ?_
      refine K.RW.q rfl rfl (K.QR.ldN [.int .i64 ((l.getD k d3).at_), .int .u64 ((l.getD k d3).old), .int .u64 ((l.getD k d3).new)] rfl rfl (by kernel_rfl) (by kernel_rfl) (K.cells (K.cl (c_5.cell (hl.ld k (by omega) 0 _ rfl) id) (K.cl (c_5.cell (hl.ld k (by omega) 1 _ rfl) id) (K.cl (c_5.cell (hl.ld k (by omega) 2 _ rfl) id) K.cl0))))) ?_
      refine K.RW.l rfl (K.OW.bs rfl [(0, .agg #[.int .i64 ((l.getD k d3).at_), .int .u64 ((l.getD k d3).old), .int .u64 ((l.getD k d3).new)])] [.int .i64 ((l.getD k d3).at_), .int .u64 ((l.getD k d3).old), .int .u64 ((l.getD k d3).new)] rfl rfl (fun w => K.bs_run (P := Try.prog) w 53 97 1 _ _ Try.underlying53 (by kernel_rfl)) ?_) 
      intro w_14 r_15 hr_16 e_17 hs_18 b_19
      have c_20 := c_5.no e_17
      have z_21 := c_20.size
      have f_22 := f_9.no e_17
      have ap_23 : ∀ k, K.Ow r k → ¬ k = r_15 := fun k hk he => absurd (f_9.lt k hk) (by omega)
      refine K.RW.l rfl (K.OW.app (P := Try.prog) (xs := ((l.take k)).flatMap chgC) (z := .agg #[.int .i64 0, .int .u64 0, .int .u64 0]) (size := 3) (bytes := 24) rfl [.int .i64 ((l.getD k d3).at_), .int .u64 ((l.getD k d3).old), .int .u64 ((l.getD k d3).new)] rfl rfl f_22 rfl Try.underlying53 (by kernel_rfl) rfl (by decide) (by rfl) (fun j u hj => (by rw [Nat.zero_add]; exact b_19.cell hj)) (K.one_cells (by rfl)) (by unfold maxLen; omega) (by omega) (by omega) ?_) 
      intro a_24 cap_25 w_26 e_27 o_28
      have c_29 := c_20.trans e_27 (fun i hi hy => absurd (f_22.base_le i hy) (by omega))
      have z_30 := c_29.size
      have o_28t := K.Own.snoc (c := chgC) (L := (l.take k)) (⟨(l.getD k d3).at_, (l.getD k d3).old, (l.getD k d3).new⟩ : Chg3) rfl o_28
      have ln_31 : (((l.take k) ++ [(⟨(l.getD k d3).at_, (l.getD k d3).old, (l.getD k d3).new⟩ : Chg3)])).length = m1 + 1 := by rw [List.length_append, p_7]; rfl
      refine K.RW.q rfl rfl (K.QR.k (v := .slice a_24 (m1 + 1) cap_25) (by kernel_rfl)) ?_
      refine K.RW.nil ?_
      refine K.blk_normal ?_
      refine K.thn_normal ?_
      -- region 4 law.go:21
      refine K.KW.region ?_
      refine K.RW.q rfl rfl (K.QR.k (v := .int .i64 ((k : Nat) : Int)) (by kernel_rfl)) ?_
      refine K.RW.q rfl rfl (K.QR.n64 ((((k : Nat) : Int) : Int) + (1 : Int)) ((k + 1 : Nat) : Int) (by kernel_rfl) (by omega)) ?_
      refine K.RW.q rfl rfl (K.QR.k (v := .int .i64 ((k + 1 : Nat) : Int)) (by kernel_rfl)) ?_
      refine K.RW.nil ?_
      refine K.thn_normal ?_
      refine ⟨_, ?_, k + 1, a_24, m1 + 1, cap_25, rfl, ⟨by rfl, by rfl, by rfl, by rfl, trivial⟩, (by omega), (by rw [List.length_take]; omega), (by omega), c_29, (by rw [take_snoc_d d3 (by omega)]; exact o_28t)⟩
      omega
    ·  -- no
      refine K.RW.q rfl rfl (K.QR.nice (v := .bool (decide ((((k : Nat) : Int) : Int) < (((l.length : Nat) : Int) : Int)))) (by kernel_rfl) (congrArg Value.bool (decide_eq_false h_11))) ?_
      refine K.RW.nil ?_
      refine K.thn_normal ?_
      refine K.KW.ifF rfl ?_
      refine K.KW.exit ?_
      refine K.thn_exit ?_
      refine K.thn_exit ?_
      refine K.blk_hit ?_
      refine K.thn_normal ?_
      refine K.KW.seq ?_
      -- region 6 law.go:24
      refine K.KW.region ?_
      refine K.RW.q rfl rfl (K.QR.k (v := .slice r m1 c1) (by kernel_rfl)) ?_
      refine K.RW.q rfl rfl (K.QR.k (v := .slice r m1 c1) (by kernel_rfl)) ?_
      refine K.RW.nil ?_
      refine K.thn_normal ?_
      refine K.KW.ret ?_
      refine ⟨.inr rfl, (.slice r m1 c1), K.res1 rfl rfl, ?_⟩
      obtain rfl : k = l.length := by omega
      rw [List.take_length] at *
      exact ⟨_, _, _, rfl, c_5, f_9, by omega⟩

set_option maxHeartbeats 1000000 in
set_option maxRecDepth 100000 in
theorem rfind_ok (a : Option Addr) (cap : Nat) (l : List Chg3) (at_ : Int) (w0 : World) (hm : l.length ≤ 9223372036854775807) (hl : RCh w0 a l) :
    K.KC Try.prog 56 #[.slice a l.length cap, .int .i64 at_] w0 (fun v w' => K.Chg K.No w0 w' ∧ ((∃ k : Nat, v = .int .i64 k ∧ k < l.length ∧ (l.getD k d3).at_ = at_) ∨ (v = .int .i64 (-1) ∧ ∀ i, i < l.length → (l.getD i d3).at_ ≠ at_))) := by
  refine K.KC.mk (n := 20) Try.func56 rfl rfl [.slice a l.length cap, .int .i64 at_] rfl rfl ?_
  refine K.KW.seq ?_
  -- region 0 ref.go:22
  refine K.KW.region ?_
  refine K.RW.q rfl rfl (K.QR.k (v := .int .i64 0) (by kernel_rfl)) ?_
  refine K.RW.nil ?_
  refine K.thn_normal ?_
  refine K.KW.seq ?_
  refine K.KW.seq ?_
  -- region 1 ref.go:23
  refine K.KW.region ?_
  refine K.RW.q rfl rfl (K.QR.k (v := .int .i64 0) (by kernel_rfl)) ?_
  refine K.RW.nil ?_
  refine K.thn_normal ?_
  refine K.KW.block ?_
  refine K.KW.loop (fun m_ F_ w_1 => ∃ (k : Nat), m_ = l.length - k ∧ K.Sl F_ [(0, .slice a l.length cap), (1, .int .i64 at_), (5, .int .i64 ((k : Nat) : Int))] ∧ k ≤ l.length ∧ (∀ i, i < k → (l.getD i d3).at_ ≠ at_) ∧ K.Chg K.No w0 w_1) ((fun (k : Nat) => l.length - k) 0) ?_ ?_
  · -- the loop begins
    exact ⟨0, rfl, ⟨by rfl, by rfl, by rfl, trivial⟩, (by omega), (fun i h => by omega), (K.Chg.refl _)⟩
  · -- a round
    intro m_2 F_3 w_1 hI
    obtain ⟨k, rfl, sl_4, p_6, p_7, c_5⟩ := hI
    rw [← K.Sl.puts sl_4]; clear sl_4
    have z_8 := c_5.size
    refine K.KW.seq ?_
    refine K.KW.seq ?_
    -- region 2 ref.go:23
    refine K.KW.region ?_
    refine K.RW.q rfl rfl (K.QR.k (v := .int .i64 ((k : Nat) : Int)) (by kernel_rfl)) ?_
    refine K.RW.q rfl rfl (K.QR.k (v := .slice a l.length cap) (by kernel_rfl)) ?_
    refine K.RW.q rfl rfl (K.QR.len (P := Try.prog) rfl rfl Try.underlying53) ?_
    by_cases h_9 : (((k : Nat) : Int) : Int) < (((l.length : Nat) : Int) : Int)
    ·  -- yes
      refine K.RW.q rfl rfl (K.QR.nice (v := .bool (decide ((((k : Nat) : Int) : Int) < (((l.length : Nat) : Int) : Int)))) (by kernel_rfl) (congrArg Value.bool (decide_eq_true h_9))) ?_
      refine K.RW.nil ?_
      refine K.thn_normal ?_
      refine K.KW.ifT rfl ?_
      refine K.KW.skip ?_
      refine K.thn_normal ?_
      refine K.KW.seq ?_
      refine K.KW.block ?_
      refine K.KW.seq ?_
      -- region 4 ref.go:24
      refine K.KW.region ?_
      refine K.RW.q rfl rfl (K.QR.k (v := .slice a l.length cap) (by kernel_rfl)) ?_
      refine K.RW.q rfl rfl (K.QR.k (v := .int .i64 ((k : Nat) : Int)) (by kernel_rfl)) ?_
      obtain ⟨b_10, of_11, rfl, _⟩ := hl.at_ (by omega)
      refine K.RW.q rfl rfl (K.QR.ix (of_11 + k * 3) 3 rfl rfl rfl Try.underlying53 (by kernel_rfl) (by omega) (by simp)) ?_
      refine K.RW.q rfl rfl (K.QR.k (v := .pointer (some ⟨b_10, of_11 + k * 3, none⟩)) (by kernel_rfl)) ?_
      refine K.RW.q rfl rfl (K.QR.ld1 (v := .int .i64 ((l.getD k d3).at_)) rfl rfl (by kernel_rfl) (c_5.cell (hl.ld k (by omega) 0 _ rfl) id)) ?_
      refine K.RW.q rfl rfl (K.QR.k (v := .int .i64 at_) (by kernel_rfl)) ?_
      by_cases h_12 : ((l.getD k d3).at_ : Int) = (at_ : Int)
      ·  -- yes
        refine K.RW.q rfl rfl (K.QR.nice (v := .bool (((l.getD k d3).at_ : Int) == (at_ : Int))) (by kernel_rfl) (congrArg Value.bool (beq_iff_eq.2 h_12))) ?_
        refine K.RW.nil ?_
        refine K.thn_normal ?_
        refine K.KW.ifT rfl ?_
        refine K.KW.seq ?_
        -- region 5 ref.go:25
        refine K.KW.region ?_
        refine K.RW.q rfl rfl (K.QR.k (v := .int .i64 ((k : Nat) : Int)) (by kernel_rfl)) ?_
        refine K.RW.q rfl rfl (K.QR.k (v := .int .i64 ((k : Nat) : Int)) (by kernel_rfl)) ?_
        refine K.RW.nil ?_
        refine K.thn_normal ?_
        refine K.KW.ret ?_
        refine K.blk_ret ?_
        refine K.thn_ret ?_
        refine K.thn_ret ?_
        refine K.blk_ret ?_
        refine K.thn_ret ?_
        refine ⟨.inr rfl, (.int .i64 ((k : Nat) : Int)), K.res1 rfl rfl, ?_⟩
        exact ⟨c_5, .inl ⟨k, rfl, by omega, by assumption⟩⟩
      ·  -- no
        refine K.RW.q rfl rfl (K.QR.nice (v := .bool (((l.getD k d3).at_ : Int) == (at_ : Int))) (by kernel_rfl) (congrArg Value.bool (beq_eq_false_iff_ne.2 h_12))) ?_
        refine K.RW.nil ?_
        refine K.thn_normal ?_
        refine K.KW.ifF rfl ?_
        refine K.KW.skip ?_
        refine K.blk_normal ?_
        refine K.thn_normal ?_
        -- region 3 ref.go:23
        refine K.KW.region ?_
        refine K.RW.q rfl rfl (K.QR.k (v := .int .i64 ((k : Nat) : Int)) (by kernel_rfl)) ?_
        refine K.RW.q rfl rfl (K.QR.n64 ((((k : Nat) : Int) : Int) + (1 : Int)) ((k + 1 : Nat) : Int) (by kernel_rfl) (by omega)) ?_
        refine K.RW.q rfl rfl (K.QR.k (v := .int .i64 ((k + 1 : Nat) : Int)) (by kernel_rfl)) ?_
        refine K.RW.nil ?_
        refine K.thn_normal ?_
        refine ⟨_, ?_, k + 1, rfl, ⟨by rfl, by rfl, by rfl, trivial⟩, (by omega), (fun i h => by rcases Nat.lt_or_ge i k with h2 | h2 <;> first | exact (by assumption : ∀ i, i < k → (l.getD i d3).at_ ≠ at_) i h2 | (rw [show i = k by omega]; assumption)), c_5⟩
        omega
    ·  -- no
      refine K.RW.q rfl rfl (K.QR.nice (v := .bool (decide ((((k : Nat) : Int) : Int) < (((l.length : Nat) : Int) : Int)))) (by kernel_rfl) (congrArg Value.bool (decide_eq_false h_9))) ?_
      refine K.RW.nil ?_
      refine K.thn_normal ?_
      refine K.KW.ifF rfl ?_
      refine K.KW.exit ?_
      refine K.thn_exit ?_
      refine K.thn_exit ?_
      refine K.blk_hit ?_
      refine K.thn_normal ?_
      refine K.KW.seq ?_
      -- region 6 ref.go:28
      refine K.KW.region ?_
      refine K.RW.q rfl rfl (K.QR.k (v := .int .i64 (-1)) (by kernel_rfl)) ?_
      refine K.RW.nil ?_
      refine K.thn_normal ?_
      refine K.KW.ret ?_
      refine ⟨.inr rfl, (.int .i64 (-1)), K.res1 rfl rfl, ?_⟩
      exact ⟨c_5, .inr ⟨rfl, fun i h => (by assumption : ∀ i, i < k → (l.getD i d3).at_ ≠ at_) i (by omega)⟩⟩

set_option maxHeartbeats 1000000 in
set_option maxRecDepth 100000 in
theorem rapply_ok (a b : Option Addr) (cap cap' : Nat) (xs : List Int) (l : List Chg3) (w0 : World) (hm : xs.length * 8 ≤ 140737488351232) (hm' : l.length ≤ 9223372036854775807) (hx : RU64 w0 a xs) (hl : RCh w0 b l) :
    K.KC Try.prog 29 #[.slice a xs.length cap, .slice b l.length cap'] w0 (fun v w' => ∃ r m c, v = .tuple #[.slice r m c, .int .i64 (apply xs l).1] ∧ K.Chg K.No w0 w' ∧ K.Own w' w0.heap.size 22 1 r m c (((apply xs l).2).flatMap cU64) ∧ (apply xs l).2.length = m) := by
  refine K.KC.mk (n := 64) Try.func29 rfl rfl [.slice a xs.length cap, .slice b l.length cap'] rfl rfl ?_
  refine K.KW.seq ?_
  -- region 0 ref.go:32
  refine K.KW.region ?_
  refine K.RW.q rfl rfl (K.QR.k (v := .slice none 0 0) (by kernel_rfl)) ?_
  refine K.RW.q rfl rfl (K.QR.k (v := .int .i64 0) (by kernel_rfl)) ?_
  refine K.RW.nil ?_
  refine K.thn_normal ?_
  refine K.KW.seq ?_
  refine K.KW.seq ?_
  -- region 1 ref.go:33
  refine K.KW.region ?_
  refine K.RW.q rfl rfl (K.QR.k (v := .slice b l.length cap') (by kernel_rfl)) ?_
  refine K.RW.l rfl (K.OW.call rfl [.slice b l.length cap'] rfl rfl (by kernel_rfl) (rright_ok _ _ l _ (by first | omega | (simp; omega) | (simp; done)) hl) ?_) 
  rintro v_4 w_2 ⟨hv_3, c_1⟩
  have c_5 := c_1
  have z_6 := c_5.size
  rcases Bool.eq_false_or_eq_true (right l) with hb_7 | hb_7
  ·  -- True
    rw [hb_7] at hv_3; subst hv_3
    refine K.RW.q rfl rfl (K.QR.k (v := .bool false) (by kernel_rfl)) ?_
    refine K.RW.nil ?_
    refine K.thn_normal ?_
    refine K.KW.ifF rfl ?_
    refine K.KW.skip ?_
    refine K.thn_normal ?_
    refine K.KW.seq ?_
    refine K.KW.seq ?_
    -- region 3 ref.go:36
    refine K.KW.region ?_
    refine K.RW.q rfl rfl (K.QR.k (v := .int .i64 0) (by kernel_rfl)) ?_
    refine K.RW.nil ?_
    refine K.thn_normal ?_
    refine K.KW.block ?_
    refine K.KW.loop (fun m_ F_ w_8 => ∃ (k : Nat), m_ = l.length - k ∧ K.Sl F_ [(0, .slice a xs.length cap), (1, .slice b l.length cap'), (6, .int .i64 ((k : Nat) : Int))] ∧ k ≤ l.length ∧ (∀ i, i < k → (l.getD i d3).at_ < xs.length) ∧ K.Chg K.No w0 w_8) ((fun (k : Nat) => l.length - k) 0) ?_ ?_
    · -- the loop begins
      exact ⟨0, rfl, ⟨by rfl, by rfl, by rfl, trivial⟩, (by omega), (fun i h => by omega), c_5⟩
    · -- a round
      intro m_9 F_10 w_8 hI
      obtain ⟨k, rfl, sl_11, p_13, p_14, c_12⟩ := hI
      rw [← K.Sl.puts sl_11]; clear sl_11
      have z_15 := c_12.size
      refine K.KW.seq ?_
      refine K.KW.seq ?_
      -- region 4 ref.go:36
      refine K.KW.region ?_
      refine K.RW.q rfl rfl (K.QR.k (v := .int .i64 ((k : Nat) : Int)) (by kernel_rfl)) ?_
      refine K.RW.q rfl rfl (K.QR.k (v := .slice b l.length cap') (by kernel_rfl)) ?_
      refine K.RW.q rfl rfl (K.QR.len (P := Try.prog) rfl rfl Try.underlying53) ?_
      by_cases h_16 : (((k : Nat) : Int) : Int) < (((l.length : Nat) : Int) : Int)
      ·  -- yes
        refine K.RW.q rfl rfl (K.QR.nice (v := .bool (decide ((((k : Nat) : Int) : Int) < (((l.length : Nat) : Int) : Int)))) (by kernel_rfl) (congrArg Value.bool (decide_eq_true h_16))) ?_
        refine K.RW.nil ?_
        refine K.thn_normal ?_
        refine K.KW.ifT rfl ?_
        refine K.KW.skip ?_
        refine K.thn_normal ?_
        refine K.KW.seq ?_
        refine K.KW.block ?_
        refine K.KW.seq ?_
        -- region 6 ref.go:37
        refine K.KW.region ?_
        refine K.RW.q rfl rfl (K.QR.k (v := .slice b l.length cap') (by kernel_rfl)) ?_
        refine K.RW.q rfl rfl (K.QR.k (v := .int .i64 ((k : Nat) : Int)) (by kernel_rfl)) ?_
        obtain ⟨b_17, of_18, rfl, _⟩ := hl.at_ (by omega)
        refine K.RW.q rfl rfl (K.QR.ix (of_18 + k * 3) 3 rfl rfl rfl Try.underlying53 (by kernel_rfl) (by omega) (by simp)) ?_
        refine K.RW.q rfl rfl (K.QR.k (v := .pointer (some ⟨b_17, of_18 + k * 3, none⟩)) (by kernel_rfl)) ?_
        refine K.RW.q rfl rfl (K.QR.ld1 (v := .int .i64 ((l.getD k d3).at_)) rfl rfl (by kernel_rfl) (c_12.cell (hl.ld k (by omega) 0 _ rfl) id)) ?_
        refine K.RW.q rfl rfl (K.QR.k (v := .slice a xs.length cap) (by kernel_rfl)) ?_
        refine K.RW.q rfl rfl (K.QR.len (P := Try.prog) rfl rfl Try.underlying32) ?_
        by_cases h_19 : ((l.getD k d3).at_ : Int) ≥ (((xs.length : Nat) : Int) : Int)
        ·  -- yes
          refine K.RW.q rfl rfl (K.QR.nice (v := .bool (decide (((l.getD k d3).at_ : Int) ≥ (((xs.length : Nat) : Int) : Int)))) (by kernel_rfl) (congrArg Value.bool (decide_eq_true h_19))) ?_
          refine K.RW.nil ?_
          refine K.thn_normal ?_
          refine K.KW.ifT rfl ?_
          refine K.KW.seq ?_
          -- region 7 ref.go:38
          refine K.KW.region ?_
          refine K.RW.q rfl rfl (K.QR.k (v := .slice none 0 0) (by kernel_rfl)) ?_
          refine K.RW.q rfl rfl (K.QR.k (v := .int .i64 5) (by kernel_rfl)) ?_
          refine K.RW.nil ?_
          refine K.thn_normal ?_
          refine K.KW.ret ?_
          refine K.blk_ret ?_
          refine K.thn_ret ?_
          refine K.thn_ret ?_
          refine K.blk_ret ?_
          refine K.thn_ret ?_
          refine ⟨.inr rfl, (.tuple #[.slice none 0 0, .int .i64 5]), K.res2 rfl rfl rfl, ?_⟩
          rw [apply_5' (i := k) (by assumption) (by omega) (by assumption)]
          exact ⟨_, _, _, rfl, c_12, K.Own.nil _ _ _ _, rfl⟩
        ·  -- no
          refine K.RW.q rfl rfl (K.QR.nice (v := .bool (decide (((l.getD k d3).at_ : Int) ≥ (((xs.length : Nat) : Int) : Int)))) (by kernel_rfl) (congrArg Value.bool (decide_eq_false h_19))) ?_
          refine K.RW.nil ?_
          refine K.thn_normal ?_
          refine K.KW.ifF rfl ?_
          refine K.KW.skip ?_
          refine K.blk_normal ?_
          refine K.thn_normal ?_
          -- region 5 ref.go:36
          refine K.KW.region ?_
          refine K.RW.q rfl rfl (K.QR.k (v := .int .i64 ((k : Nat) : Int)) (by kernel_rfl)) ?_
          refine K.RW.q rfl rfl (K.QR.n64 ((((k : Nat) : Int) : Int) + (1 : Int)) ((k + 1 : Nat) : Int) (by kernel_rfl) (by omega)) ?_
          refine K.RW.q rfl rfl (K.QR.k (v := .int .i64 ((k + 1 : Nat) : Int)) (by kernel_rfl)) ?_
          refine K.RW.nil ?_
          refine K.thn_normal ?_
          refine ⟨_, ?_, k + 1, rfl, ⟨by rfl, by rfl, by rfl, trivial⟩, (by omega), (fun i h => by rcases Nat.lt_or_ge i k with h2 | h2 <;> first | exact (by assumption : ∀ i, i < k → (l.getD i d3).at_ < xs.length) i h2 | (rw [show i = k by omega]; omega)), c_12⟩
          omega
      ·  -- no
        refine K.RW.q rfl rfl (K.QR.nice (v := .bool (decide ((((k : Nat) : Int) : Int) < (((l.length : Nat) : Int) : Int)))) (by kernel_rfl) (congrArg Value.bool (decide_eq_false h_16))) ?_
        refine K.RW.nil ?_
        refine K.thn_normal ?_
        refine K.KW.ifF rfl ?_
        refine K.KW.exit ?_
        refine K.thn_exit ?_
        refine K.thn_exit ?_
        refine K.blk_hit ?_
        refine K.thn_normal ?_
        refine K.KW.seq ?_
        -- region 8 ref.go:41
        refine K.KW.region ?_
        refine K.RW.q rfl rfl (K.QR.k (v := .slice none 0 0) (by kernel_rfl)) ?_
        refine K.RW.nil ?_
        refine K.thn_normal ?_
        refine K.KW.seq ?_
        refine K.KW.seq ?_
        -- region 9 ref.go:42
        refine K.KW.region ?_
        refine K.RW.q rfl rfl (K.QR.k (v := .int .i64 0) (by kernel_rfl)) ?_
        refine K.RW.nil ?_
        refine K.thn_normal ?_
        refine K.KW.block ?_
        refine K.KW.loop (fun m_ F_ w_20 => ∃ (i : Nat) (ys : List Int) (r : Option Addr) (m1 : Nat) (c1 : Nat), m_ = xs.length - i ∧ K.Sl F_ [(0, .slice a xs.length cap), (1, .slice b l.length cap'), (7, .slice r m1 c1), (8, .int .i64 ((i : Nat) : Int))] ∧ i ≤ xs.length ∧ ys.length = m1 ∧ m1 = i ∧ outTo xs l ys i ∧ (∀ i, i < l.length → (l.getD i d3).at_ < xs.length) ∧ K.Chg K.No w0 w_20 ∧ K.Own w_20 w0.heap.size 22 1 r m1 c1 ((ys).flatMap cU64)) ((fun (i : Nat) (ys : List Int) (r : Option Addr) (m1 : Nat) (c1 : Nat) => xs.length - i) 0 [] none 0 0) ?_ ?_
        · -- the loop begins
          exact ⟨0, [], none, 0, 0, rfl, ⟨by rfl, by rfl, by rfl, by rfl, trivial⟩, (by omega), (rfl), (rfl), (outTo_zero (by assumption)), (fun i h => (by assumption : ∀ i, i < k → (l.getD i d3).at_ < xs.length) i (by omega)), c_12, K.Own.nil _ _ _ _⟩
        · -- a round
          intro m_21 F_22 w_20 hI
          obtain ⟨i, ys, r, m1, c1, rfl, sl_23, p_25, p_26, p_27, p_28, p_29, c_24, f_30⟩ := hI
          rw [← K.Sl.puts sl_23]; clear sl_23
          have z_31 := c_24.size
          refine K.KW.seq ?_
          refine K.KW.seq ?_
          -- region 10 ref.go:42
          refine K.KW.region ?_
          refine K.RW.q rfl rfl (K.QR.k (v := .int .i64 ((i : Nat) : Int)) (by kernel_rfl)) ?_
          refine K.RW.q rfl rfl (K.QR.k (v := .slice a xs.length cap) (by kernel_rfl)) ?_
          refine K.RW.q rfl rfl (K.QR.len (P := Try.prog) rfl rfl Try.underlying32) ?_
          by_cases h_32 : (((i : Nat) : Int) : Int) < (((xs.length : Nat) : Int) : Int)
          ·  -- yes
            refine K.RW.q rfl rfl (K.QR.nice (v := .bool (decide ((((i : Nat) : Int) : Int) < (((xs.length : Nat) : Int) : Int)))) (by kernel_rfl) (congrArg Value.bool (decide_eq_true h_32))) ?_
            refine K.RW.nil ?_
            refine K.thn_normal ?_
            refine K.KW.ifT rfl ?_
            refine K.KW.skip ?_
            refine K.thn_normal ?_
            refine K.KW.seq ?_
            refine K.KW.block ?_
            refine K.KW.seq ?_
            -- region 12 ref.go:43
            refine K.KW.region ?_
            refine K.RW.q rfl rfl (K.QR.k (v := .slice a xs.length cap) (by kernel_rfl)) ?_
            refine K.RW.q rfl rfl (K.QR.k (v := .int .i64 ((i : Nat) : Int)) (by kernel_rfl)) ?_
            obtain ⟨b_33, of_34, rfl, _⟩ := hx.at_ (by omega)
            refine K.RW.q rfl rfl (K.QR.ix (of_34 + i * 1) 1 rfl rfl rfl Try.underlying32 (by kernel_rfl) (by omega) (by simp)) ?_
            refine K.RW.q rfl rfl (K.QR.ld1 (v := .int .u64 (xs.getD i 0)) rfl rfl (by kernel_rfl) (c_24.cell (hx.ld i (by omega) 0 _ rfl) id)) ?_
            refine K.RW.q rfl rfl (K.QR.k (v := .int .u64 (xs.getD i 0)) (by kernel_rfl)) ?_
            refine K.RW.nil ?_
            refine K.thn_normal ?_
            refine K.KW.seq ?_
            -- region 13 ref.go:44
            refine K.KW.region ?_
            refine K.RW.q rfl rfl (K.QR.k (v := .slice b l.length cap') (by kernel_rfl)) ?_
            refine K.RW.q rfl rfl (K.QR.k (v := .int .i64 ((i : Nat) : Int)) (by kernel_rfl)) ?_
            refine K.RW.l rfl (K.OW.call rfl [.slice b l.length cap', .int .i64 ((i : Nat) : Int)] rfl rfl (by kernel_rfl) (rfind_ok _ _ l _ _ (by first | omega | (simp; omega) | (simp; done)) (hl.no c_24)) ?_) 
            rintro v_36 w_35 ⟨c_37, h_38⟩
            have c_39 := c_24.no c_37
            have z_40 := c_39.size
            have f_41 := f_30.no c_37
            rcases h_38 with ⟨k_42, rfl, h_43, g_44⟩ | ⟨rfl, g_45⟩
            ·  -- one way
              refine K.RW.q rfl rfl (K.QR.k (v := .int .i64 ((k_42 : Nat) : Int)) (by kernel_rfl)) ?_
              refine K.RW.nil ?_
              refine K.thn_normal ?_
              refine K.KW.seq ?_
              refine K.KW.seq ?_
              -- region 14 ref.go:45
              refine K.KW.region ?_
              refine K.RW.q rfl rfl (K.QR.k (v := .int .i64 ((k_42 : Nat) : Int)) (by kernel_rfl)) ?_
              refine K.RW.q rfl rfl (K.QR.nice (v := .bool (decide ((((k_42 : Nat) : Int) : Int) ≥ (0 : Int)))) (by kernel_rfl) (congrArg Value.bool (decide_eq_true (by omega)))) ?_
              refine K.RW.q rfl rfl (K.QR.k (v := .bool true) (by kernel_rfl)) ?_
              refine K.RW.q rfl (by kernel_rfl) (K.QR.k (v := .slice b l.length cap') (by kernel_rfl)) ?_
              refine K.RW.q rfl (by kernel_rfl) (K.QR.k (v := .int .i64 ((k_42 : Nat) : Int)) (by kernel_rfl)) ?_
              obtain ⟨b_46, of_47, rfl, _⟩ := hl.at_ (by omega)
              refine K.RW.q rfl (by kernel_rfl) (K.QR.ix (of_47 + k_42 * 3) 3 rfl rfl rfl Try.underlying53 (by kernel_rfl) (by omega) (by simp)) ?_
              refine K.RW.q rfl (by kernel_rfl) (K.QR.k (v := .pointer (some ⟨b_46, of_47 + k_42 * 3 + 1, none⟩)) (by kernel_rfl)) ?_
              refine K.RW.q rfl (by kernel_rfl) (K.QR.ld1 (v := .int .u64 ((l.getD k_42 d3).old)) rfl rfl (by kernel_rfl) (c_39.cell (hl.ld k_42 (by omega) 1 _ rfl) id)) ?_
              refine K.RW.q rfl (by kernel_rfl) (K.QR.k (v := .int .u64 (xs.getD i 0)) (by kernel_rfl)) ?_
              by_cases h_48 : ((l.getD k_42 d3).old : Int) = (xs.getD i 0 : Int)
              ·  -- yes
                refine K.RW.q rfl (by kernel_rfl) (K.QR.nice (v := .bool (((l.getD k_42 d3).old : Int) != (xs.getD i 0 : Int))) (by kernel_rfl) (congrArg Value.bool (bne_eq_false_iff_eq.2 h_48))) ?_
                refine K.RW.q rfl rfl (K.QR.k (v := .bool false) (by kernel_rfl)) ?_
                refine K.RW.nil ?_
                refine K.thn_normal ?_
                refine K.KW.ifF rfl ?_
                refine K.KW.skip ?_
                refine K.thn_normal ?_
                refine K.KW.seq ?_
                refine K.KW.seq ?_
                -- region 16 ref.go:48
                refine K.KW.region ?_
                refine K.RW.q rfl rfl (K.QR.k (v := .int .i64 ((k_42 : Nat) : Int)) (by kernel_rfl)) ?_
                refine K.RW.q rfl rfl (K.QR.nice (v := .bool (decide ((((k_42 : Nat) : Int) : Int) ≥ (0 : Int)))) (by kernel_rfl) (congrArg Value.bool (decide_eq_true (by omega)))) ?_
                refine K.RW.nil ?_
                refine K.thn_normal ?_
                refine K.KW.ifT rfl ?_
                -- region 17 ref.go:49
                refine K.KW.region ?_
                refine K.RW.q rfl rfl (K.QR.k (v := .slice (some ⟨b_46, of_47, none⟩) l.length cap') (by kernel_rfl)) ?_
                refine K.RW.q rfl rfl (K.QR.k (v := .int .i64 ((k_42 : Nat) : Int)) (by kernel_rfl)) ?_
                refine K.RW.q rfl rfl (K.QR.ix (of_47 + k_42 * 3) 3 rfl rfl rfl Try.underlying53 (by kernel_rfl) (by omega) (by simp)) ?_
                refine K.RW.q rfl rfl (K.QR.k (v := .pointer (some ⟨b_46, of_47 + k_42 * 3 + 2, none⟩)) (by kernel_rfl)) ?_
                refine K.RW.q rfl rfl (K.QR.ld1 (v := .int .u64 ((l.getD k_42 d3).new)) rfl rfl (by kernel_rfl) (c_39.cell (hl.ld k_42 (by omega) 2 _ rfl) id)) ?_
                refine K.RW.q rfl rfl (K.QR.k (v := .int .u64 ((l.getD k_42 d3).new)) (by kernel_rfl)) ?_
                refine K.RW.nil ?_
                refine K.thn_normal ?_
                -- region 18 ref.go:51
                refine K.KW.region ?_
                refine K.RW.q rfl rfl (K.QR.k (v := .slice r m1 c1) (by kernel_rfl)) ?_
                refine K.RW.q rfl rfl (K.QR.k (v := .int .u64 ((l.getD k_42 d3).new)) (by kernel_rfl)) ?_
                refine K.RW.l rfl (K.OW.bs rfl [(0, .int .u64 ((l.getD k_42 d3).new))] [.int .u64 ((l.getD k_42 d3).new)] rfl rfl (fun w => K.bs_run (P := Try.prog) w 32 22 1 _ _ Try.underlying32 (by kernel_rfl)) ?_) 
                intro w_49 r_50 hr_51 e_52 hs_53 b_54
                have c_55 := c_39.no e_52
                have z_56 := c_55.size
                have f_57 := f_41.no e_52
                have ap_58 : ∀ k, K.Ow r k → ¬ k = r_50 := fun k hk he => absurd (f_41.lt k hk) (by omega)
                refine K.RW.l rfl (K.OW.app (P := Try.prog) (xs := (ys).flatMap cU64) (z := .int .u64 0) (size := 1) (bytes := 8) rfl [.int .u64 ((l.getD k_42 d3).new)] rfl rfl f_57 rfl Try.underlying32 (by kernel_rfl) rfl (by decide) (by rfl) (fun j u hj => (by rw [Nat.zero_add]; exact b_54.cell hj)) (K.one_cells (by rfl)) (by unfold maxLen; omega) (by omega) (by omega) ?_) 
                intro a_59 cap_60 w_61 e_62 o_63
                have c_64 := c_55.trans e_62 (fun i hi hy => absurd (f_57.base_le i hy) (by omega))
                have z_65 := c_64.size
                have o_63t := K.Own.snoc (c := cU64) (L := ys) ((l.getD k_42 d3).new : Int) rfl o_63
                have ln_66 : ((ys ++ [((l.getD k_42 d3).new : Int)])).length = m1 + 1 := by rw [List.length_append, p_26]; rfl
                refine K.RW.q rfl rfl (K.QR.k (v := .slice a_59 (m1 + 1) cap_60) (by kernel_rfl)) ?_
                refine K.RW.nil ?_
                refine K.blk_normal ?_
                refine K.thn_normal ?_
                -- region 11 ref.go:42
                refine K.KW.region ?_
                refine K.RW.q rfl rfl (K.QR.k (v := .int .i64 ((i : Nat) : Int)) (by kernel_rfl)) ?_
                refine K.RW.q rfl rfl (K.QR.n64 ((((i : Nat) : Int) : Int) + (1 : Int)) ((i + 1 : Nat) : Int) (by kernel_rfl) (by omega)) ?_
                refine K.RW.q rfl rfl (K.QR.k (v := .int .i64 ((i + 1 : Nat) : Int)) (by kernel_rfl)) ?_
                refine K.RW.nil ?_
                refine K.thn_normal ?_
                refine ⟨_, ?_, i + 1, (ys ++ [((l.getD k_42 d3).new : Int)]), a_59, m1 + 1, cap_60, rfl, ⟨by rfl, by rfl, by rfl, by rfl, trivial⟩, (by omega), (ln_66), (by omega), (by first | exact outTo_new (by assumption) (by assumption) (by assumption) (by assumption) (by assumption) | exact outTo_old (by assumption) (by assumption) (by assumption)), (by assumption), c_64, o_63t⟩
                omega
              ·  -- no
                refine K.RW.q rfl (by kernel_rfl) (K.QR.nice (v := .bool (((l.getD k_42 d3).old : Int) != (xs.getD i 0 : Int))) (by kernel_rfl) (congrArg Value.bool (bne_iff_ne.2 h_48))) ?_
                refine K.RW.q rfl rfl (K.QR.k (v := .bool true) (by kernel_rfl)) ?_
                refine K.RW.nil ?_
                refine K.thn_normal ?_
                refine K.KW.ifT rfl ?_
                refine K.KW.seq ?_
                -- region 15 ref.go:46
                refine K.KW.region ?_
                refine K.RW.q rfl rfl (K.QR.k (v := .slice none 0 0) (by kernel_rfl)) ?_
                refine K.RW.q rfl rfl (K.QR.k (v := .int .i64 9) (by kernel_rfl)) ?_
                refine K.RW.nil ?_
                refine K.thn_normal ?_
                refine K.KW.ret ?_
                refine K.thn_ret ?_
                refine K.blk_ret ?_
                refine K.thn_ret ?_
                refine K.thn_ret ?_
                refine K.blk_ret ?_
                refine K.thn_ret ?_
                refine ⟨.inr rfl, (.tuple #[.slice none 0 0, .int .i64 9]), K.res2 rfl rfl rfl, ?_⟩
                rw [apply_9' (i := i) (by assumption) (by assumption) (by assumption) (by assumption) (by assumption)]
                exact ⟨_, _, _, rfl, c_39, K.Own.nil _ _ _ _, rfl⟩
            ·  -- one way
              refine K.RW.q rfl rfl (K.QR.k (v := .int .i64 (-1)) (by kernel_rfl)) ?_
              refine K.RW.nil ?_
              refine K.thn_normal ?_
              refine K.KW.seq ?_
              refine K.KW.seq ?_
              -- region 14 ref.go:45
              refine K.KW.region ?_
              refine K.RW.q rfl rfl (K.QR.k (v := .int .i64 (-1)) (by kernel_rfl)) ?_
              refine K.RW.q rfl rfl (K.QR.k (v := .bool false) (by kernel_rfl)) ?_
              refine K.RW.q rfl rfl (K.QR.k (v := .bool false) (by kernel_rfl)) ?_
              refine K.RW.skip rfl (by kernel_rfl) ?_
              refine K.RW.skip rfl (by kernel_rfl) ?_
              refine K.RW.skip rfl (by kernel_rfl) ?_
              refine K.RW.skip rfl (by kernel_rfl) ?_
              refine K.RW.skip rfl (by kernel_rfl) ?_
              refine K.RW.skip rfl (by kernel_rfl) ?_
              refine K.RW.skip rfl (by kernel_rfl) ?_
              refine K.RW.q rfl rfl (K.QR.k (v := .bool false) (by kernel_rfl)) ?_
              refine K.RW.nil ?_
              refine K.thn_normal ?_
              refine K.KW.ifF rfl ?_
              refine K.KW.skip ?_
              refine K.thn_normal ?_
              refine K.KW.seq ?_
              refine K.KW.seq ?_
              -- region 16 ref.go:48
              refine K.KW.region ?_
              refine K.RW.q rfl rfl (K.QR.k (v := .int .i64 (-1)) (by kernel_rfl)) ?_
              refine K.RW.q rfl rfl (K.QR.k (v := .bool false) (by kernel_rfl)) ?_
              refine K.RW.nil ?_
              refine K.thn_normal ?_
              refine K.KW.ifF rfl ?_
              refine K.KW.skip ?_
              refine K.thn_normal ?_
              -- region 18 ref.go:51
              refine K.KW.region ?_
              refine K.RW.q rfl rfl (K.QR.k (v := .slice r m1 c1) (by kernel_rfl)) ?_
              refine K.RW.q rfl rfl (K.QR.k (v := .int .u64 (xs.getD i 0)) (by kernel_rfl)) ?_
              refine K.RW.l rfl (K.OW.bs rfl [(0, .int .u64 (xs.getD i 0))] [.int .u64 (xs.getD i 0)] rfl rfl (fun w => K.bs_run (P := Try.prog) w 32 22 1 _ _ Try.underlying32 (by kernel_rfl)) ?_) 
              intro w_67 r_68 hr_69 e_70 hs_71 b_72
              have c_73 := c_39.no e_70
              have z_74 := c_73.size
              have f_75 := f_41.no e_70
              have ap_76 : ∀ k, K.Ow r k → ¬ k = r_68 := fun k hk he => absurd (f_41.lt k hk) (by omega)
              refine K.RW.l rfl (K.OW.app (P := Try.prog) (xs := (ys).flatMap cU64) (z := .int .u64 0) (size := 1) (bytes := 8) rfl [.int .u64 (xs.getD i 0)] rfl rfl f_75 rfl Try.underlying32 (by kernel_rfl) rfl (by decide) (by rfl) (fun j u hj => (by rw [Nat.zero_add]; exact b_72.cell hj)) (K.one_cells (by rfl)) (by unfold maxLen; omega) (by omega) (by omega) ?_) 
              intro a_77 cap_78 w_79 e_80 o_81
              have c_82 := c_73.trans e_80 (fun i hi hy => absurd (f_75.base_le i hy) (by omega))
              have z_83 := c_82.size
              have o_81t := K.Own.snoc (c := cU64) (L := ys) (xs.getD i 0 : Int) rfl o_81
              have ln_84 : ((ys ++ [(xs.getD i 0 : Int)])).length = m1 + 1 := by rw [List.length_append, p_26]; rfl
              refine K.RW.q rfl rfl (K.QR.k (v := .slice a_77 (m1 + 1) cap_78) (by kernel_rfl)) ?_
              refine K.RW.nil ?_
              refine K.blk_normal ?_
              refine K.thn_normal ?_
              -- region 11 ref.go:42
              refine K.KW.region ?_
              refine K.RW.q rfl rfl (K.QR.k (v := .int .i64 ((i : Nat) : Int)) (by kernel_rfl)) ?_
              refine K.RW.q rfl rfl (K.QR.n64 ((((i : Nat) : Int) : Int) + (1 : Int)) ((i + 1 : Nat) : Int) (by kernel_rfl) (by omega)) ?_
              refine K.RW.q rfl rfl (K.QR.k (v := .int .i64 ((i + 1 : Nat) : Int)) (by kernel_rfl)) ?_
              refine K.RW.nil ?_
              refine K.thn_normal ?_
              refine ⟨_, ?_, i + 1, (ys ++ [(xs.getD i 0 : Int)]), a_77, m1 + 1, cap_78, rfl, ⟨by rfl, by rfl, by rfl, by rfl, trivial⟩, (by omega), (ln_84), (by omega), (by first | exact outTo_new (by assumption) (by assumption) (by assumption) (by assumption) (by assumption) | exact outTo_old (by assumption) (by assumption) (by assumption)), (by assumption), c_82, o_81t⟩
              omega
          ·  -- no
            refine K.RW.q rfl rfl (K.QR.nice (v := .bool (decide ((((i : Nat) : Int) : Int) < (((xs.length : Nat) : Int) : Int)))) (by kernel_rfl) (congrArg Value.bool (decide_eq_false h_32))) ?_
            refine K.RW.nil ?_
            refine K.thn_normal ?_
            refine K.KW.ifF rfl ?_
            refine K.KW.exit ?_
            refine K.thn_exit ?_
            refine K.thn_exit ?_
            refine K.blk_hit ?_
            refine K.thn_normal ?_
            refine K.KW.seq ?_
            -- region 19 ref.go:53
            refine K.KW.region ?_
            refine K.RW.q rfl rfl (K.QR.k (v := .slice r m1 c1) (by kernel_rfl)) ?_
            refine K.RW.q rfl rfl (K.QR.k (v := .slice r m1 c1) (by kernel_rfl)) ?_
            refine K.RW.q rfl rfl (K.QR.k (v := .int .i64 0) (by kernel_rfl)) ?_
            refine K.RW.nil ?_
            refine K.thn_normal ?_
            refine K.KW.ret ?_
            refine ⟨.inr rfl, (.tuple #[.slice r m1 c1, .int .i64 0]), K.res2 rfl rfl rfl, ?_⟩
            rw [apply_out (i := i) (by assumption) (by assumption) (by assumption) (by omega)]
            exact ⟨_, _, _, rfl, c_24, f_30, p_26⟩
  ·  -- False
    rw [hb_7] at hv_3; subst hv_3
    refine K.RW.q rfl rfl (K.QR.k (v := .bool true) (by kernel_rfl)) ?_
    refine K.RW.nil ?_
    refine K.thn_normal ?_
    refine K.KW.ifT rfl ?_
    refine K.KW.seq ?_
    -- region 2 ref.go:34
    refine K.KW.region ?_
    refine K.RW.q rfl rfl (K.QR.k (v := .slice none 0 0) (by kernel_rfl)) ?_
    refine K.RW.q rfl rfl (K.QR.k (v := .int .i64 3) (by kernel_rfl)) ?_
    refine K.RW.nil ?_
    refine K.thn_normal ?_
    refine K.KW.ret ?_
    refine K.thn_ret ?_
    refine ⟨.inr rfl, (.tuple #[.slice none 0 0, .int .i64 3]), K.res2 rfl rfl rfl, ?_⟩
    rw [apply_3 (by assumption)]
    exact ⟨_, _, _, rfl, c_5, K.Own.nil _ _ _ _, rfl⟩

/-- the line of the k-th change -/
def lnOf (l : List Chg3) (k : Nat) : Int := (l.getD k d3).at_ / 8
def newLn (l : List Chg3) (k : Nat) : Prop := k = 0 ∨ ¬ lnOf l k = lnOf l (k - 1)
instance (l : List Chg3) (k : Nat) : Decidable (newLn l k) := by unfold newLn; infer_instance
/-- the lines that the first k changes touch -/
def linesTo (l : List Chg3) : Nat → List Int
  | 0 => []
  | k + 1 => if newLn l k then linesTo l k ++ [lnOf l k] else linesTo l k
theorem linesTo_new {l : List Chg3} {k : Nat} (h : newLn l k) : linesTo l (k + 1) = linesTo l k ++ [lnOf l k] := if_pos h
theorem linesTo_old {l : List Chg3} {k : Nat} (h : ¬ newLn l k) : linesTo l (k + 1) = linesTo l k := if_neg h
theorem linesTo_le (l : List Chg3) : ∀ k, (linesTo l k).length ≤ k
  | 0 => Nat.le_refl _
  | k + 1 => by
    have := linesTo_le l k
    by_cases h : newLn l k
    · rw [linesTo_new h, List.length_append]; simp; omega
    · rw [linesTo_old h]; omega
theorem linesTo_last (l : List Chg3) : ∀ k, 0 < k → 0 < (linesTo l k).length ∧ (linesTo l k).getD ((linesTo l k).length - 1) 0 = lnOf l (k - 1)
  | 0, h => by omega
  | k + 1, _ => by
    by_cases h : newLn l k
    · rw [linesTo_new h, List.length_append, List.length_singleton, Nat.add_sub_cancel, Nat.add_sub_cancel]
      exact ⟨by omega, getD_snoc_eq⟩
    · rw [linesTo_old h]
      unfold newLn at h
      have := linesTo_last l k (by omega)
      rw [show k + 1 - 1 = k by omega, this.2]
      exact ⟨this.1, by omega⟩
theorem linesTo_mono (l : List Chg3) (k : Nat) : ∀ m, (linesTo l k).length ≤ (linesTo l (k + m)).length
  | 0 => Nat.le_refl _
  | m + 1 => by
    refine Nat.le_trans (linesTo_mono l k m) ?_
    show _ ≤ (linesTo l ((k + m) + 1)).length
    by_cases h : newLn l (k + m)
    · rw [linesTo_new h, List.length_append]; omega
    · rw [linesTo_old h]; exact Nat.le_refl _
theorem linesTo_get {l : List Chg3} {k : Nat} (h : newLn l k) : ∀ m, (linesTo l (k + 1 + m)).getD (linesTo l k).length 0 = lnOf l k ∧ (linesTo l k).length < (linesTo l (k + 1 + m)).length
  | 0 => by rw [Nat.add_zero, linesTo_new h]; exact ⟨getD_snoc_eq, by rw [List.length_append]; simp⟩
  | m + 1 => by
    obtain ⟨h1, h2⟩ := linesTo_get h m
    show (linesTo l ((k + 1 + m) + 1)).getD _ _ = _ ∧ _ < (linesTo l ((k + 1 + m) + 1)).length
    by_cases he : newLn l (k + 1 + m)
    · rw [linesTo_new he]; exact ⟨by rw [getD_snoc_lt h2]; exact h1, by rw [List.length_append]; omega⟩
    · rw [linesTo_old he]; exact ⟨h1, h2⟩
theorem linesTo_at {l : List Chg3} {k N : Nat} (hk : k < N) (h : newLn l k) : (linesTo l N).getD (linesTo l k).length 0 = lnOf l k ∧ (linesTo l k).length < (linesTo l N).length := by
  have := linesTo_get h (N - (k + 1))
  rwa [show k + 1 + (N - (k + 1)) = N by omega] at this

set_option maxHeartbeats 1000000 in
set_option maxRecDepth 100000 in
theorem lines_ok (a : Option Addr) (cap : Nat) (l : List Chg3) (w0 : World) (hm : l.length * 24 ≤ 140737488351232) (hr : right l = true) (hw : ∀ i, i < l.length → (l.getD i d3).at_ ≤ 9223372036854775807) (hl : RCh w0 a l) :
    K.KC Try.prog 32 #[.slice a l.length cap] w0 (fun v w' => ∃ r m c, v = .slice r m c ∧ K.Chg K.No w0 w' ∧ K.Own w' w0.heap.size 3 1 r m c ((linesTo l l.length).flatMap cI64) ∧ (linesTo l l.length).length = m) := by
  refine K.KC.mk (n := 35) Try.func32 rfl rfl [.slice a l.length cap] rfl rfl ?_
  refine K.KW.seq ?_
  -- region 0 diff.go:94
  refine K.KW.region ?_
  refine K.RW.q rfl rfl (K.QR.k (v := .slice none 0 0) (by kernel_rfl)) ?_
  refine K.RW.nil ?_
  refine K.thn_normal ?_
  refine K.KW.seq ?_
  -- region 1 diff.go:95
  refine K.KW.region ?_
  refine K.RW.q rfl rfl (K.QR.k (v := .slice none 0 0) (by kernel_rfl)) ?_
  refine K.RW.nil ?_
  refine K.thn_normal ?_
  refine K.KW.seq ?_
  refine K.KW.seq ?_
  -- region 2 diff.go:96
  refine K.KW.region ?_
  refine K.RW.q rfl rfl (K.QR.k (v := .slice a l.length cap) (by kernel_rfl)) ?_
  refine K.RW.q rfl rfl (K.QR.len (P := Try.prog) rfl rfl Try.underlying42) ?_
  refine K.RW.q rfl rfl (K.QR.k (v := .int .i64 0) (by kernel_rfl)) ?_
  refine K.RW.nil ?_
  refine K.thn_normal ?_
  refine K.KW.block ?_
  refine K.KW.loop (fun m_ F_ w_1 => ∃ (k : Nat) (r : Option Addr) (m1 : Nat) (c1 : Nat), m_ = l.length - k ∧ K.Sl F_ [(0, .slice a l.length cap), (2, .slice none 0 0), (3, .slice r m1 c1), (7, .slice a l.length cap), (8, .int .i64 ((l.length : Nat) : Int)), (9, .int .i64 ((k : Nat) : Int))] ∧ k ≤ l.length ∧ (linesTo l k).length = m1 ∧ m1 ≤ k ∧ K.Chg K.No w0 w_1 ∧ K.Own w_1 w0.heap.size 3 1 r m1 c1 ((linesTo l k).flatMap cI64)) ((fun (k : Nat) (r : Option Addr) (m1 : Nat) (c1 : Nat) => l.length - k) 0 none 0 0) ?_ ?_
  · -- the loop begins
    exact ⟨0, none, 0, 0, rfl, ⟨by rfl, by rfl, by rfl, by rfl, by rfl, by rfl, trivial⟩, (by omega), (rfl), (by omega), (K.Chg.refl _), K.Own.nil _ _ _ _⟩
  · -- a round
    intro m_2 F_3 w_1 hI
    obtain ⟨k, r, m1, c1, rfl, sl_4, p_6, p_7, p_8, c_5, f_9⟩ := hI
    rw [← K.Sl.puts sl_4]; clear sl_4
    have z_10 := c_5.size
    have hk0 : k < l.length → 0 ≤ (l.getD k d3).at_ := fun h => right_ge hr h
    have hk1 := hw k
    have hk2 : 0 < k → 0 < m1 ∧ (linesTo l k).getD (m1 - 1) 0 = lnOf l (k - 1) := by rw [← (by assumption : (linesTo l k).length = m1)]; exact linesTo_last l k
    have hk3 : lnOf l k = (l.getD k d3).at_ / 8 := rfl
    refine K.KW.seq ?_
    -- region 3 diff.go:96
    refine K.KW.region ?_
    by_cases h_11 : (((k : Nat) : Int) : Int) < (((l.length : Nat) : Int) : Int)
    ·  -- yes
      refine K.RW.q rfl rfl (K.QR.nice (v := .bool (decide ((((k : Nat) : Int) : Int) < (((l.length : Nat) : Int) : Int)))) (by kernel_rfl) (congrArg Value.bool (decide_eq_true h_11))) ?_
      refine K.RW.nil ?_
      refine K.thn_normal ?_
      refine K.KW.seq ?_
      refine K.KW.ifT rfl ?_
      refine K.KW.skip ?_
      refine K.thn_normal ?_
      refine K.KW.seq ?_
      refine K.KW.block ?_
      refine K.KW.seq ?_
      -- region 4 diff.go:96
      obtain ⟨b_12, of_13, rfl, _⟩ := hl.at_ (by omega)
      refine K.KW.region ?_
      refine K.RW.q rfl rfl (K.QR.ix (of_13 + k * 3) 3 rfl rfl rfl Try.underlying42 (by kernel_rfl) (by omega) (by simp)) ?_
      refine K.RW.q rfl rfl (K.QR.ldN [.int .i64 ((l.getD k d3).at_), .int .u64 ((l.getD k d3).old), .int .u64 ((l.getD k d3).new)] rfl rfl (by kernel_rfl) (by kernel_rfl) (K.cells (K.cl (c_5.cell (hl.ld k (by omega) 0 _ rfl) id) (K.cl (c_5.cell (hl.ld k (by omega) 1 _ rfl) id) (K.cl (c_5.cell (hl.ld k (by omega) 2 _ rfl) id) K.cl0))))) ?_
      refine K.RW.l rfl (K.OW.new (t := 46) rfl (fun r => .pointer (some ⟨r, 0, none⟩)) [.int .i64 0, .int .u64 0, .int .u64 0] (by kernel_rfl) ?_) 
      intro w_14 r_15 hr_16 e_17 hs_18 b_19
      have c_20 := c_5.no e_17
      have z_21 := c_20.size
      have f_22 := f_9.no e_17
      refine K.RW.l rfl (K.OW.st [.int .i64 ((l.getD k d3).at_), .int .u64 ((l.getD k d3).old), .int .u64 ((l.getD k d3).new)] [.int .i64 ((l.getD k d3).at_), .int .u64 ((l.getD k d3).old), .int .u64 ((l.getD k d3).new)] rfl rfl rfl (by kernel_rfl) b_19 rfl (K.one_cells (by rfl)) rfl rfl ?_) 
      intro w_23 e_24 hs_25 b_26
      have c_27 := c_20.own e_24 (by omega)
      have z_28 := c_27.size
      have f_29 := f_22.chg e_24 (fun k hk hy => f_22.ne_ty b_19 (by decide) k hk hy)
      refine K.RW.nil ?_
      refine K.thn_normal ?_
      refine K.KW.seq ?_
      -- region 5 diff.go:97
      refine K.KW.region ?_
      refine K.RW.q rfl rfl (K.QR.k (v := .pointer (some ⟨r_15, 0, none⟩)) (by kernel_rfl)) ?_
      refine K.RW.q rfl rfl (K.QR.ld1 (v := .int .i64 ((l.getD k d3).at_)) rfl rfl (by kernel_rfl) (b_26.cell rfl)) ?_
      refine K.RW.q rfl rfl (K.QR.quoi64 ((l.getD k d3).at_ : Int) 8 (((l.getD k d3).at_ : Int) / 8) (by kernel_rfl) (by omega) (by omega)) ?_
      refine K.RW.q rfl rfl (K.QR.k (v := .int .i64 (((l.getD k d3).at_ : Int) / 8)) (by kernel_rfl)) ?_
      refine K.RW.nil ?_
      refine K.thn_normal ?_
      refine K.KW.seq ?_
      -- region 6 diff.go:98
      refine K.KW.region ?_
      refine K.RW.q rfl rfl (K.QR.k (v := .slice r m1 c1) (by kernel_rfl)) ?_
      refine K.RW.q rfl rfl (K.QR.len (P := Try.prog) rfl rfl Try.underlying56) ?_
      by_cases h_30 : (((m1 : Nat) : Int) : Int) = (0 : Int)
      ·  -- yes
        refine K.RW.q rfl rfl (K.QR.nice (v := .bool ((((m1 : Nat) : Int) : Int) == (0 : Int))) (by kernel_rfl) (congrArg Value.bool (beq_iff_eq.2 h_30))) ?_
        refine K.RW.q rfl rfl (K.QR.k (v := .bool true) (by kernel_rfl)) ?_
        refine K.RW.skip rfl (by kernel_rfl) ?_
        refine K.RW.skip rfl (by kernel_rfl) ?_
        refine K.RW.skip rfl (by kernel_rfl) ?_
        refine K.RW.skip rfl (by kernel_rfl) ?_
        refine K.RW.skip rfl (by kernel_rfl) ?_
        refine K.RW.skip rfl (by kernel_rfl) ?_
        refine K.RW.skip rfl (by kernel_rfl) ?_
        refine K.RW.skip rfl (by kernel_rfl) ?_
        refine K.RW.q rfl rfl (K.QR.k (v := .bool true) (by kernel_rfl)) ?_
        refine K.RW.nil ?_
        refine K.thn_normal ?_
        refine K.KW.ifT rfl ?_
        -- region 7 diff.go:99
        refine K.KW.region ?_
        refine K.RW.q rfl rfl (K.QR.k (v := .slice r m1 c1) (by kernel_rfl)) ?_
        refine K.RW.q rfl rfl (K.QR.k (v := .int .i64 (((l.getD k d3).at_ : Int) / 8)) (by kernel_rfl)) ?_
        refine K.RW.l rfl (K.OW.bs rfl [(0, .int .i64 (((l.getD k d3).at_ : Int) / 8))] [.int .i64 (((l.getD k d3).at_ : Int) / 8)] rfl rfl (fun w => K.bs_run (P := Try.prog) w 56 3 1 _ _ Try.underlying56 (by kernel_rfl)) ?_) 
        intro w_31 r_32 hr_33 e_34 hs_35 b_36
        have c_37 := c_27.no e_34
        have z_38 := c_37.size
        have f_39 := f_29.no e_34
        have f_40 := b_26.no e_34
        have ap_41 : ∀ k, K.Ow r k → ¬ k = r_32 := fun k hk he => absurd (f_29.lt k hk) (by omega)
        refine K.RW.l rfl (K.OW.app (P := Try.prog) (xs := ((linesTo l k)).flatMap cI64) (z := .int .i64 0) (size := 1) (bytes := 8) rfl [.int .i64 (((l.getD k d3).at_ : Int) / 8)] rfl rfl f_39 rfl Try.underlying56 (by kernel_rfl) rfl (by decide) (by rfl) (fun j u hj => (by rw [Nat.zero_add]; exact b_36.cell hj)) (K.one_cells (by rfl)) (by unfold maxLen; omega) (by omega) (by omega) ?_) 
        intro a_42 cap_43 w_44 e_45 o_46
        have c_47 := c_37.trans e_45 (fun i hi hy => absurd (f_39.base_le i hy) (by omega))
        have z_48 := c_47.size
        have f_49 := f_40.chg e_45 (fun hk => f_39.ne_ty f_40 (by decide) _ hk rfl)
        have o_46t := K.Own.snoc (c := cI64) (L := (linesTo l k)) (((l.getD k d3).at_ : Int) / 8 : Int) rfl o_46
        have ln_50 : (((linesTo l k) ++ [(((l.getD k d3).at_ : Int) / 8 : Int)])).length = m1 + 1 := by rw [List.length_append, p_7]; rfl
        refine K.RW.q rfl rfl (K.QR.k (v := .slice a_42 (m1 + 1) cap_43) (by kernel_rfl)) ?_
        refine K.RW.nil ?_
        refine K.blk_normal ?_
        refine K.thn_normal ?_
        -- region 8 diff.go:96
        refine K.KW.region ?_
        refine K.RW.q rfl rfl (K.QR.n64 ((((k : Nat) : Int) : Int) + (1 : Int)) ((k + 1 : Nat) : Int) (by kernel_rfl) (by omega)) ?_
        refine K.RW.q rfl rfl (K.QR.k (v := .int .i64 ((k + 1 : Nat) : Int)) (by kernel_rfl)) ?_
        refine K.RW.nil ?_
        refine K.thn_normal ?_
        refine ⟨_, ?_, k + 1, a_42, m1 + 1, cap_43, rfl, ⟨by rfl, by rfl, by rfl, by rfl, by rfl, by rfl, trivial⟩, (by omega), ((by first | (rw [linesTo_new (by unfold newLn; omega)]; exact ln_50) | (rw [linesTo_old (by unfold newLn; omega)]; exact ln_50))), (by omega), c_47, (by first | (rw [linesTo_new (by unfold newLn; omega)]; exact o_46t) | (rw [linesTo_old (by unfold newLn; omega)]; exact o_46t))⟩
        omega
      ·  -- no
        refine K.RW.q rfl rfl (K.QR.nice (v := .bool ((((m1 : Nat) : Int) : Int) == (0 : Int))) (by kernel_rfl) (congrArg Value.bool (beq_eq_false_iff_ne.2 h_30))) ?_
        refine K.RW.q rfl rfl (K.QR.k (v := .bool false) (by kernel_rfl)) ?_
        refine K.RW.q rfl (by kernel_rfl) (K.QR.k (v := .slice r m1 c1) (by kernel_rfl)) ?_
        refine K.RW.q rfl (by kernel_rfl) (K.QR.k (v := .slice r m1 c1) (by kernel_rfl)) ?_
        refine K.RW.q rfl (by kernel_rfl) (K.QR.len (P := Try.prog) rfl rfl Try.underlying56) ?_
        refine K.RW.q rfl (by kernel_rfl) (K.QR.n64 ((((m1 : Nat) : Int) : Int) - (1 : Int)) ((m1 - 1 : Nat) : Int) (by kernel_rfl) (by omega)) ?_
        obtain ⟨b_51, rfl, gb_53, gl_54⟩ := f_29.some_ (by omega)
        refine K.RW.q rfl (by kernel_rfl) (K.QR.ix (0 + (m1 - 1) * 1) 1 rfl rfl rfl Try.underlying56 (by kernel_rfl) (by omega) (by simp)) ?_
        refine K.RW.q rfl (by kernel_rfl) (K.QR.ld1 (v := .int .i64 ((linesTo l k).getD (m1 - 1) 0)) rfl rfl (by kernel_rfl) ((K.Own.rowE 0 f_29 p_7 (fun _ => rfl)).ld (m1 - 1) (by omega) 0 _ rfl)) ?_
        refine K.RW.q rfl (by kernel_rfl) (K.QR.k (v := .int .i64 (((l.getD k d3).at_ : Int) / 8)) (by kernel_rfl)) ?_
        by_cases h_55 : ((linesTo l k).getD (m1 - 1) 0 : Int) = (((l.getD k d3).at_ : Int) / 8 : Int)
        ·  -- yes
          refine K.RW.q rfl (by kernel_rfl) (K.QR.nice (v := .bool (((linesTo l k).getD (m1 - 1) 0 : Int) != (((l.getD k d3).at_ : Int) / 8 : Int))) (by kernel_rfl) (congrArg Value.bool (bne_eq_false_iff_eq.2 h_55))) ?_
          refine K.RW.q rfl rfl (K.QR.k (v := .bool false) (by kernel_rfl)) ?_
          refine K.RW.nil ?_
          refine K.thn_normal ?_
          refine K.KW.ifF rfl ?_
          refine K.KW.skip ?_
          refine K.blk_normal ?_
          refine K.thn_normal ?_
          -- region 8 diff.go:96
          refine K.KW.region ?_
          refine K.RW.q rfl rfl (K.QR.n64 ((((k : Nat) : Int) : Int) + (1 : Int)) ((k + 1 : Nat) : Int) (by kernel_rfl) (by omega)) ?_
          refine K.RW.q rfl rfl (K.QR.k (v := .int .i64 ((k + 1 : Nat) : Int)) (by kernel_rfl)) ?_
          refine K.RW.nil ?_
          refine K.thn_normal ?_
          refine ⟨_, ?_, k + 1, (some ⟨b_51, 0, none⟩), m1, c1, rfl, ⟨by rfl, by rfl, by rfl, by rfl, by rfl, by rfl, trivial⟩, (by omega), ((by first | (rw [linesTo_new (by unfold newLn; omega)]; exact p_7) | (rw [linesTo_old (by unfold newLn; omega)]; exact p_7))), (by omega), c_27, (by first | (rw [linesTo_new (by unfold newLn; omega)]; exact f_29) | (rw [linesTo_old (by unfold newLn; omega)]; exact f_29))⟩
          omega
        ·  -- no
          refine K.RW.q rfl (by kernel_rfl) (K.QR.nice (v := .bool (((linesTo l k).getD (m1 - 1) 0 : Int) != (((l.getD k d3).at_ : Int) / 8 : Int))) (by kernel_rfl) (congrArg Value.bool (bne_iff_ne.2 h_55))) ?_
          refine K.RW.q rfl rfl (K.QR.k (v := .bool true) (by kernel_rfl)) ?_
          refine K.RW.nil ?_
          refine K.thn_normal ?_
          refine K.KW.ifT rfl ?_
          -- region 7 diff.go:99
          refine K.KW.region ?_
          refine K.RW.q rfl rfl (K.QR.k (v := .slice (some ⟨b_51, 0, none⟩) m1 c1) (by kernel_rfl)) ?_
          refine K.RW.q rfl rfl (K.QR.k (v := .int .i64 (((l.getD k d3).at_ : Int) / 8)) (by kernel_rfl)) ?_
          refine K.RW.l rfl (K.OW.bs rfl [(0, .int .i64 (((l.getD k d3).at_ : Int) / 8))] [.int .i64 (((l.getD k d3).at_ : Int) / 8)] rfl rfl (fun w => K.bs_run (P := Try.prog) w 56 3 1 _ _ Try.underlying56 (by kernel_rfl)) ?_) 
          intro w_56 r_57 hr_58 e_59 hs_60 b_61
          have c_62 := c_27.no e_59
          have z_63 := c_62.size
          have f_64 := f_29.no e_59
          have f_65 := b_26.no e_59
          have ap_66 : ∀ k, K.Ow (some ⟨b_51, 0, none⟩) k → ¬ k = r_57 := fun k hk he => absurd (f_29.lt k hk) (by omega)
          refine K.RW.l rfl (K.OW.app (P := Try.prog) (xs := ((linesTo l k)).flatMap cI64) (z := .int .i64 0) (size := 1) (bytes := 8) rfl [.int .i64 (((l.getD k d3).at_ : Int) / 8)] rfl rfl f_64 rfl Try.underlying56 (by kernel_rfl) rfl (by decide) (by rfl) (fun j u hj => (by rw [Nat.zero_add]; exact b_61.cell hj)) (K.one_cells (by rfl)) (by unfold maxLen; omega) (by omega) (by omega) ?_) 
          intro a_67 cap_68 w_69 e_70 o_71
          have c_72 := c_62.trans e_70 (fun i hi hy => absurd (f_64.base_le i hy) (by omega))
          have z_73 := c_72.size
          have f_74 := f_65.chg e_70 (fun hk => f_64.ne_ty f_65 (by decide) _ hk rfl)
          have o_71t := K.Own.snoc (c := cI64) (L := (linesTo l k)) (((l.getD k d3).at_ : Int) / 8 : Int) rfl o_71
          have ln_75 : (((linesTo l k) ++ [(((l.getD k d3).at_ : Int) / 8 : Int)])).length = m1 + 1 := by rw [List.length_append, p_7]; rfl
          refine K.RW.q rfl rfl (K.QR.k (v := .slice a_67 (m1 + 1) cap_68) (by kernel_rfl)) ?_
          refine K.RW.nil ?_
          refine K.blk_normal ?_
          refine K.thn_normal ?_
          -- region 8 diff.go:96
          refine K.KW.region ?_
          refine K.RW.q rfl rfl (K.QR.n64 ((((k : Nat) : Int) : Int) + (1 : Int)) ((k + 1 : Nat) : Int) (by kernel_rfl) (by omega)) ?_
          refine K.RW.q rfl rfl (K.QR.k (v := .int .i64 ((k + 1 : Nat) : Int)) (by kernel_rfl)) ?_
          refine K.RW.nil ?_
          refine K.thn_normal ?_
          refine ⟨_, ?_, k + 1, a_67, m1 + 1, cap_68, rfl, ⟨by rfl, by rfl, by rfl, by rfl, by rfl, by rfl, trivial⟩, (by omega), ((by first | (rw [linesTo_new (by unfold newLn; omega)]; exact ln_75) | (rw [linesTo_old (by unfold newLn; omega)]; exact ln_75))), (by omega), c_72, (by first | (rw [linesTo_new (by unfold newLn; omega)]; exact o_71t) | (rw [linesTo_old (by unfold newLn; omega)]; exact o_71t))⟩
          omega
    ·  -- no
      refine K.RW.q rfl rfl (K.QR.nice (v := .bool (decide ((((k : Nat) : Int) : Int) < (((l.length : Nat) : Int) : Int)))) (by kernel_rfl) (congrArg Value.bool (decide_eq_false h_11))) ?_
      refine K.RW.nil ?_
      refine K.thn_normal ?_
      refine K.KW.seq ?_
      refine K.KW.ifF rfl ?_
      refine K.KW.exit ?_
      refine K.thn_exit ?_
      refine K.thn_exit ?_
      refine K.blk_hit ?_
      refine K.thn_normal ?_
      refine K.KW.seq ?_
      -- region 9 diff.go:102
      refine K.KW.region ?_
      refine K.RW.q rfl rfl (K.QR.k (v := .slice r m1 c1) (by kernel_rfl)) ?_
      refine K.RW.q rfl rfl (K.QR.k (v := .slice r m1 c1) (by kernel_rfl)) ?_
      refine K.RW.nil ?_
      refine K.thn_normal ?_
      refine K.KW.ret ?_
      refine ⟨.inr rfl, (.slice r m1 c1), K.res1 rfl rfl, ?_⟩
      obtain rfl : k = l.length := by omega
      exact ⟨_, _, _, rfl, c_5, f_9, p_7⟩

end Go.Proofs.Ytcmlompigmhddaa
