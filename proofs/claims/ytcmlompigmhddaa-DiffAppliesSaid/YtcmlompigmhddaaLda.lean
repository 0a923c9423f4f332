/- DiffApplies: a patch applied is the reference; its lines are the ones that change. -/
import Derived.Test.YtcmlompigmhddaaFdref
namespace Go.Proofs.Ytcmlompigmhddaa
open Go.RowKit
set_option linter.unusedVariables false
attribute [local irreducible] K.KW K.RW K.DW K.OW K.QR K.KC

theorem map_back_getD {l : List Chg3} {i : Nat} (h : i < l.length) : (l.map back1).getD i d3 = back1 (l.getD i d3) := by
  simp [List.getD_eq_getElem?_getD, List.getElem?_eq_getElem h]
theorem applyTo_len {xs : List Int} {l : List Chg3} : ∀ k ys, applyTo xs l k = some ys → ys.length = xs.length
  | 0, ys, h => by obtain rfl : xs = ys := Option.some.inj h; rfl
  | k + 1, ys, h => by
    cases hz : applyTo xs l k with
    | none => rw [show applyTo xs l (k + 1) = (applyTo xs l k).bind _ from rfl, hz] at h; cases h
    | some zs =>
      rw [show applyTo xs l (k + 1) = (applyTo xs l k).bind _ from rfl, hz] at h
      have h5 : (if zs.getD (l.getD k d3).at_.toNat 0 = (l.getD k d3).old then some (zs.set (l.getD k d3).at_.toNat (l.getD k d3).new) else none) = some ys := h
      split at h5
      case isFalse => cases h5
      case isTrue =>
        obtain rfl := Option.some.inj h5
        rw [List.length_set]; exact applyTo_len k zs hz
theorem apply_le (xs : List Int) (l : List Chg3) : (apply xs l).2.length ≤ xs.length := by
  unfold apply
  split
  · exact Nat.zero_le _
  · split
    · exact Nat.zero_le _
    · split
      · exact Nat.zero_le _
      · rename_i ys h; exact Nat.le_of_eq (applyTo_len _ _ h)

set_option maxHeartbeats 1000000 in
set_option maxRecDepth 100000 in
theorem lawda_ok (a b : Option Addr) (cap cap' : Nat) (xs : List Int) (l : List Chg3) (w0 : World) (hm0 : xs.length ≤ 9223372036854775807) (hm1 : l.length ≤ 9223372036854775807) (hw : ∀ i, i < l.length → (l.getD i d3).at_ ≤ 9223372036854775807) (hx : RU64 w0 a xs) (hl : RCh w0 b l) :
    K.KC Try.prog 6 #[.slice a xs.length cap, .slice b l.length cap'] w0 (fun v w' => v = .bool true ∧ K.Chg K.No w0 w') := by
  refine K.KC.mk (n := 145) Try.func6 rfl rfl [.slice a xs.length cap, .slice b l.length cap'] rfl rfl ?_
  refine K.KW.seq ?_
  -- region 0 law.go:64
  refine K.KW.region ?_
  refine K.RW.q rfl rfl (K.QR.k (v := .bool false) (by kernel_rfl)) ?_
  refine K.RW.nil ?_
  refine K.thn_normal ?_
  refine K.KW.seq ?_
  refine K.KW.seq ?_
  -- region 1 law.go:65
  refine K.KW.region ?_
  refine K.RW.q rfl rfl (K.QR.k (v := .slice a xs.length cap) (by kernel_rfl)) ?_
  refine K.RW.q rfl rfl (K.QR.len (P := Try.prog) rfl rfl Try.underlying32) ?_
  by_cases h1 : (((xs.length : Nat) : Int) : Int) > (300 : Int)
  ·  -- yes
    refine K.RW.q rfl rfl (K.QR.nice (v := .bool (decide ((((xs.length : Nat) : Int) : Int) > (300 : Int)))) (by kernel_rfl) (congrArg Value.bool (decide_eq_true h1))) ?_
    refine K.RW.q rfl rfl (K.QR.k (v := .bool true) (by kernel_rfl)) ?_
    refine K.RW.skip rfl (by kernel_rfl) ?_
    refine K.RW.skip rfl (by kernel_rfl) ?_
    refine K.RW.skip rfl (by kernel_rfl) ?_
    refine K.RW.q rfl rfl (K.QR.k (v := .bool true) (by kernel_rfl)) ?_
    refine K.RW.nil ?_
    refine K.thn_normal ?_
    refine K.KW.ifT rfl ?_
    refine K.KW.seq ?_
    -- region 2 law.go:66
    refine K.KW.region ?_
    refine K.RW.l rfl (K.OW.call rfl [] rfl rfl (by kernel_rfl) (awake34_ok _) ?_) 
    rintro _ w3 ⟨rfl, c2⟩
    have c4 := c2
    have z5 := c4.size
    refine K.RW.q rfl rfl (K.QR.k (v := .bool true) (by kernel_rfl)) ?_
    refine K.RW.nil ?_
    refine K.thn_normal ?_
    refine K.KW.ret ?_
    refine K.thn_ret ?_
    refine ⟨.inr rfl, (.bool true), K.res1 rfl rfl, ?_⟩
    exact ⟨rfl, c4⟩
  ·  -- no
    refine K.RW.q rfl rfl (K.QR.nice (v := .bool (decide ((((xs.length : Nat) : Int) : Int) > (300 : Int)))) (by kernel_rfl) (congrArg Value.bool (decide_eq_false h1))) ?_
    refine K.RW.q rfl rfl (K.QR.k (v := .bool false) (by kernel_rfl)) ?_
    refine K.RW.q rfl (by kernel_rfl) (K.QR.k (v := .slice b l.length cap') (by kernel_rfl)) ?_
    refine K.RW.q rfl (by kernel_rfl) (K.QR.len (P := Try.prog) rfl rfl Try.underlying42) ?_
    by_cases h6 : (((l.length : Nat) : Int) : Int) > (100 : Int)
    ·  -- yes
      refine K.RW.q rfl (by kernel_rfl) (K.QR.nice (v := .bool (decide ((((l.length : Nat) : Int) : Int) > (100 : Int)))) (by kernel_rfl) (congrArg Value.bool (decide_eq_true h6))) ?_
      refine K.RW.q rfl rfl (K.QR.k (v := .bool true) (by kernel_rfl)) ?_
      refine K.RW.nil ?_
      refine K.thn_normal ?_
      refine K.KW.ifT rfl ?_
      refine K.KW.seq ?_
      -- region 2 law.go:66
      refine K.KW.region ?_
      refine K.RW.l rfl (K.OW.call rfl [] rfl rfl (by kernel_rfl) (awake34_ok _) ?_) 
      rintro _ w8 ⟨rfl, c7⟩
      have c9 := c7
      have z10 := c9.size
      refine K.RW.q rfl rfl (K.QR.k (v := .bool true) (by kernel_rfl)) ?_
      refine K.RW.nil ?_
      refine K.thn_normal ?_
      refine K.KW.ret ?_
      refine K.thn_ret ?_
      refine ⟨.inr rfl, (.bool true), K.res1 rfl rfl, ?_⟩
      exact ⟨rfl, c9⟩
    ·  -- no
      refine K.RW.q rfl (by kernel_rfl) (K.QR.nice (v := .bool (decide ((((l.length : Nat) : Int) : Int) > (100 : Int)))) (by kernel_rfl) (congrArg Value.bool (decide_eq_false h6))) ?_
      refine K.RW.q rfl rfl (K.QR.k (v := .bool false) (by kernel_rfl)) ?_
      refine K.RW.nil ?_
      refine K.thn_normal ?_
      refine K.KW.ifF rfl ?_
      refine K.KW.skip ?_
      refine K.thn_normal ?_
      refine K.KW.seq ?_
      -- region 3 law.go:68
      refine K.KW.region ?_
      refine K.RW.q rfl rfl (K.QR.k (v := .slice a xs.length cap) (by kernel_rfl)) ?_
      refine K.RW.q rfl rfl (K.QR.k (v := .slice b l.length cap') (by kernel_rfl)) ?_
      refine K.RW.l rfl (K.OW.call rfl [.slice a xs.length cap, .slice b l.length cap'] rfl rfl (by kernel_rfl) (apply_ok _ _ _ _ xs l _ (by first | omega | (simp; omega) | (simp; done)) (by first | omega | (simp; omega) | (simp; done)) hx hl) ?_) 
      rintro _ w17 ⟨r11, m12, cc13, rfl, c14, o15, rfl⟩
      have c18 := c14
      have z19 := c18.size
      have o20 := K.Own.mono (base' := w0.heap.size) o15 (by omega)
      refine K.RW.q rfl rfl (K.QR.k (v := .tuple #[.slice r11 (((apply xs l).2).length) cc13, .int .i64 ((apply xs l).1)]) (by kernel_rfl)) ?_
      refine K.RW.q rfl rfl (K.QR.k (v := .slice r11 (((apply xs l).2).length) cc13) (by kernel_rfl)) ?_
      refine K.RW.q rfl rfl (K.QR.k (v := .int .i64 ((apply xs l).1)) (by kernel_rfl)) ?_
      refine K.RW.q rfl rfl (K.QR.k (v := .slice r11 (((apply xs l).2).length) cc13) (by kernel_rfl)) ?_
      refine K.RW.q rfl rfl (K.QR.k (v := .int .i64 ((apply xs l).1)) (by kernel_rfl)) ?_
      refine K.RW.nil ?_
      refine K.thn_normal ?_
      refine K.KW.seq ?_
      -- region 4 law.go:69
      refine K.KW.region ?_
      refine K.RW.q rfl rfl (K.QR.k (v := .slice a xs.length cap) (by kernel_rfl)) ?_
      refine K.RW.q rfl rfl (K.QR.k (v := .slice b l.length cap') (by kernel_rfl)) ?_
      refine K.RW.l rfl (K.OW.call rfl [.slice b l.length cap'] rfl rfl (by kernel_rfl) (as_ok _ _ l _ (by first | omega | (simp; omega) | (simp; done)) (hl.no c18)) ?_) 
      rintro _ w27 ⟨r21, m22, cc23, rfl, c24, o25, rfl⟩
      have c28 := c18.no c24
      have z29 := c28.size
      have f30 := o20.no c24
      have o31 := K.Own.mono (base' := w0.heap.size) o25 (by omega)
      refine K.RW.l rfl (K.OW.call rfl [.slice a xs.length cap, .slice r21 l.length cc23] rfl rfl (by kernel_rfl) (rapply_ok _ _ _ _ xs l _ (by first | omega | (simp; omega) | (simp; done)) (by first | omega | (simp; omega) | (simp; done)) (hx.no c28) (K.Own.rowE d3 o31 rfl (fun _ => rfl))) ?_) 
      rintro _ w38 ⟨r32, m33, cc34, rfl, c35, o36, rfl⟩
      have c39 := c28.no c35
      have z40 := c39.size
      have f41 := f30.no c35
      have f42 := o31.no c35
      have o43 := K.Own.mono (base' := w0.heap.size) o36 (by omega)
      refine K.RW.q rfl rfl (K.QR.k (v := .tuple #[.slice r32 (((apply xs l).2).length) cc34, .int .i64 ((apply xs l).1)]) (by kernel_rfl)) ?_
      refine K.RW.q rfl rfl (K.QR.k (v := .slice r32 (((apply xs l).2).length) cc34) (by kernel_rfl)) ?_
      refine K.RW.q rfl rfl (K.QR.k (v := .int .i64 ((apply xs l).1)) (by kernel_rfl)) ?_
      refine K.RW.q rfl rfl (K.QR.k (v := .slice r32 (((apply xs l).2).length) cc34) (by kernel_rfl)) ?_
      refine K.RW.q rfl rfl (K.QR.k (v := .int .i64 ((apply xs l).1)) (by kernel_rfl)) ?_
      refine K.RW.nil ?_
      refine K.thn_normal ?_
      refine K.KW.seq ?_
      -- region 5 law.go:70
      refine K.KW.region ?_
      refine K.RW.q rfl rfl (K.QR.k (v := .slice b l.length cap') (by kernel_rfl)) ?_
      refine K.RW.l rfl (K.OW.call rfl [.slice b l.length cap'] rfl rfl (by kernel_rfl) (back_ok _ _ l _ (by first | omega | (simp; omega) | (simp; done)) (hl.no c39)) ?_) 
      rintro _ w50 ⟨r44, m45, cc46, rfl, c47, o48, rfl⟩
      have c51 := c39.no c47
      have z52 := c51.size
      have f53 := f41.no c47
      have f54 := f42.no c47
      have f55 := o43.no c47
      have o56 := K.Own.mono (base' := w0.heap.size) o48 (by omega)
      refine K.RW.q rfl rfl (K.QR.k (v := .slice r44 ((l.map back1).length) cc46) (by kernel_rfl)) ?_
      refine K.RW.nil ?_
      refine K.thn_normal ?_
      refine K.KW.seq ?_
      refine K.KW.seq ?_
      -- region 6 law.go:71
      have hal := apply_le xs l
      refine K.KW.region ?_
      refine K.RW.q rfl rfl (K.QR.k (v := .int .i64 ((apply xs l).1)) (by kernel_rfl)) ?_
      refine K.RW.q rfl rfl (K.QR.k (v := .int .i64 ((apply xs l).1)) (by kernel_rfl)) ?_
      refine K.RW.q rfl rfl (K.QR.nice (v := .bool (((apply xs l).1 : Int) != ((apply xs l).1 : Int))) (by kernel_rfl) (congrArg Value.bool (bne_eq_false_iff_eq.2 rfl))) ?_
      refine K.RW.q rfl rfl (K.QR.k (v := .bool false) (by kernel_rfl)) ?_
      refine K.RW.q rfl (by kernel_rfl) (K.QR.k (v := .slice r11 (((apply xs l).2).length) cc13) (by kernel_rfl)) ?_
      refine K.RW.q rfl (by kernel_rfl) (K.QR.k (v := .slice r32 (((apply xs l).2).length) cc34) (by kernel_rfl)) ?_
      refine K.RW.l (by kernel_rfl) (K.OW.call rfl [.slice r11 (((apply xs l).2).length) cc13, .slice r32 (((apply xs l).2).length) cc34] rfl rfl (by kernel_rfl) (same_ok _ _ _ _ ((apply xs l).2) ((apply xs l).2) _ (by first | omega | (simp; omega) | simp) (K.Own.rowE 0 f53 rfl (fun _ => rfl)) (K.Own.rowE 0 f55 rfl (fun _ => rfl))) ?_) 
      rintro v60 w58 ⟨hv59, c57⟩
      have c61 := c51.no c57
      have z62 := c61.size
      have f63 := f53.no c57
      have f64 := f54.no c57
      have f65 := f55.no c57
      have f66 := o56.no c57
      have hb67 : sameB ((apply xs l).2) ((apply xs l).2) = true := (decide_eq_true rfl)
      rw [hb67] at hv59; subst hv59
      refine K.RW.q rfl (by kernel_rfl) (K.QR.k (v := .bool false) (by kernel_rfl)) ?_
      refine K.RW.q rfl rfl (K.QR.k (v := .bool false) (by kernel_rfl)) ?_
      refine K.RW.q rfl rfl (K.QR.k (v := .bool false) (by kernel_rfl)) ?_
      refine K.RW.q rfl (by kernel_rfl) (K.QR.k (v := .slice b l.length cap') (by kernel_rfl)) ?_
      refine K.RW.l (by kernel_rfl) (K.OW.call rfl [.slice b l.length cap'] rfl rfl (by kernel_rfl) (right_ok _ _ l _ (by first | omega | (simp; omega) | simp) (hl.no c61)) ?_) 
      rintro v71 w69 ⟨hv70, c68⟩
      have c72 := c61.no c68
      have z73 := c72.size
      have f74 := f63.no c68
      have f75 := f64.no c68
      have f76 := f65.no c68
      have f77 := f66.no c68
      rcases Bool.eq_false_or_eq_true (right l) with hb78 | hb78
      ·  -- True
        rw [hb78] at hv70; subst hv70
        refine K.RW.q rfl (by kernel_rfl) (K.QR.k (v := .slice b l.length cap') (by kernel_rfl)) ?_
        refine K.RW.l (by kernel_rfl) (K.OW.call rfl [.slice b l.length cap'] rfl rfl (by kernel_rfl) (as_ok _ _ l _ (by first | omega | (simp; omega) | (simp; done)) (hl.no c72)) ?_) 
        rintro _ w85 ⟨r79, m80, cc81, rfl, c82, o83, rfl⟩
        have c86 := c72.no c82
        have z87 := c86.size
        have f88 := f74.no c82
        have f89 := f75.no c82
        have f90 := f76.no c82
        have f91 := f77.no c82
        have o92 := K.Own.mono (base' := w0.heap.size) o83 (by omega)
        refine K.RW.l (by kernel_rfl) (K.OW.call rfl [.slice r79 l.length cc81] rfl rfl (by kernel_rfl) (rright_ok _ _ l _ (by first | omega | (simp; omega) | (simp; done)) (K.Own.rowE d3 o92 rfl (fun _ => rfl))) ?_) 
        rintro v96 w94 ⟨hv95, c93⟩
        have c97 := c86.no c93
        have z98 := c97.size
        have f99 := f88.no c93
        have f100 := f89.no c93
        have f101 := f90.no c93
        have f102 := f91.no c93
        have f103 := o92.no c93
        have hb104 : right l = true := hb78
        rw [hb104] at hv95; subst hv95
        refine K.RW.q rfl (by kernel_rfl) (K.QR.k (v := .bool false) (by kernel_rfl)) ?_
        refine K.RW.q rfl rfl (K.QR.k (v := .bool false) (by kernel_rfl)) ?_
        refine K.RW.q rfl rfl (K.QR.k (v := .bool false) (by kernel_rfl)) ?_
        refine K.RW.q rfl (by kernel_rfl) (K.QR.k (v := .slice r44 ((l.map back1).length) cc46) (by kernel_rfl)) ?_
        refine K.RW.q rfl (by kernel_rfl) (K.QR.len (P := Try.prog) rfl rfl Try.underlying42) ?_
        refine K.RW.q rfl (by kernel_rfl) (K.QR.k (v := .slice b l.length cap') (by kernel_rfl)) ?_
        refine K.RW.q rfl (by kernel_rfl) (K.QR.len (P := Try.prog) rfl rfl Try.underlying42) ?_
        refine K.RW.q rfl (by kernel_rfl) (K.QR.nice (v := .bool (((((l.map back1).length : Nat) : Int) : Int) != (((l.length : Nat) : Int) : Int))) (by kernel_rfl) (congrArg Value.bool (bne_eq_false_iff_eq.2 (by simp)))) ?_
        refine K.RW.q rfl rfl (K.QR.k (v := .bool false) (by kernel_rfl)) ?_
        refine K.RW.nil ?_
        refine K.thn_normal ?_
        refine K.KW.ifF rfl ?_
        refine K.KW.skip ?_
        refine K.thn_normal ?_
        refine K.KW.seq ?_
        refine K.KW.seq ?_
        -- region 8 law.go:74
        refine K.KW.region ?_
        refine K.RW.q rfl rfl (K.QR.k (v := .int .i64 0) (by kernel_rfl)) ?_
        refine K.RW.nil ?_
        refine K.thn_normal ?_
        refine K.KW.block ?_
        refine K.KW.loop (fun m F w105 => ∃ (i : Nat), m = l.length - i ∧ K.Sl F [(0, .slice a xs.length cap), (1, .slice b l.length cap'), (9, .slice r44 ((l.map back1).length) cc46), (10, .int .i64 ((i : Nat) : Int))] ∧ i ≤ l.length ∧ K.Chg K.No w0 w105 ∧ K.Own w105 w0.heap.size 22 1 r11 (((apply xs l).2).length) cc13 (((apply xs l).2).flatMap cU64) ∧ K.Own w105 w0.heap.size 97 3 r21 l.length cc23 ((l).flatMap chgC) ∧ K.Own w105 w0.heap.size 22 1 r32 (((apply xs l).2).length) cc34 (((apply xs l).2).flatMap cU64) ∧ K.Own w105 w0.heap.size 46 3 r44 ((l.map back1).length) cc46 (((l.map back1)).flatMap chgC) ∧ K.Own w105 w0.heap.size 97 3 r79 l.length cc81 ((l).flatMap chgC)) ((fun (i : Nat) => l.length - i) 0) ?_ ?_
        · -- the loop begins
          exact ⟨0, rfl, ⟨by rfl, by rfl, by rfl, by rfl, trivial⟩, (by omega), c97, f99, f100, f101, f102, f103⟩
        · -- a round
          intro m111 F112 w105 hI
          obtain ⟨i, rfl, sl113, p115, c114, f116, f117, f118, f119, f120⟩ := hI
          rw [← K.Sl.puts sl113]; clear sl113
          have z121 := c114.size
          have hlm : (l.map back1).length = l.length := by simp
          refine K.KW.seq ?_
          refine K.KW.seq ?_
          -- region 9 law.go:74
          refine K.KW.region ?_
          refine K.RW.q rfl rfl (K.QR.k (v := .int .i64 ((i : Nat) : Int)) (by kernel_rfl)) ?_
          refine K.RW.q rfl rfl (K.QR.k (v := .slice b l.length cap') (by kernel_rfl)) ?_
          refine K.RW.q rfl rfl (K.QR.len (P := Try.prog) rfl rfl Try.underlying42) ?_
          by_cases h122 : (((i : Nat) : Int) : Int) < (((l.length : Nat) : Int) : Int)
          ·  -- yes
            refine K.RW.q rfl rfl (K.QR.nice (v := .bool (decide ((((i : Nat) : Int) : Int) < (((l.length : Nat) : Int) : Int)))) (by kernel_rfl) (congrArg Value.bool (decide_eq_true h122))) ?_
            refine K.RW.nil ?_
            refine K.thn_normal ?_
            refine K.KW.ifT rfl ?_
            refine K.KW.skip ?_
            refine K.thn_normal ?_
            refine K.KW.seq ?_
            refine K.KW.block ?_
            refine K.KW.seq ?_
            -- region 11 law.go:75
            obtain ⟨b123, rfl, gb125, gl126⟩ := f119.some_ (by omega)
            obtain ⟨b127, of128, rfl, _⟩ := hl.at_ (by omega)
            refine K.KW.drawn (fun w => K.Chg K.No w0 w ∧ K.Own w w0.heap.size 46 3 (some ⟨b123, 0, none⟩) ((l.map back1).length) cc46 (((l.map back1)).flatMap chgC)) (by kernel_rfl) ?_
            intro w129 e130 hs131
            have c133 := c114.no e130
            have z134 := c133.size
            have f135 := f116.no e130
            have f136 := f117.no e130
            have f137 := f118.no e130
            have f138 := f119.no e130
            have f139 := f120.no e130
            have hS132 : (fun w => K.Chg K.No w0 w ∧ K.Own w w0.heap.size 46 3 (some ⟨b123, 0, none⟩) ((l.map back1).length) cc46 (((l.map back1)).flatMap chgC)) w129 := ⟨c133, f138⟩
            refine K.DW.q 0 (by kernel_rfl) rfl rfl (by kernel_rfl) rfl (fun w hS => K.QR.k (v := .slice (some ⟨b123, 0, none⟩) ((l.map back1).length) cc46) (by kernel_rfl)) hS132 ?_
            refine K.DW.q 1 (by kernel_rfl) rfl rfl (by kernel_rfl) rfl (fun w hS => K.QR.k (v := .int .i64 ((i : Nat) : Int)) (by kernel_rfl)) hS132 ?_
            refine K.DW.q 2 (by kernel_rfl) rfl rfl (by kernel_rfl) rfl (fun w hS => K.QR.ix (0 + i * 3) 3 rfl rfl rfl Try.underlying42 (by kernel_rfl) (by omega) (by simp)) hS132 ?_
            refine K.DW.q 3 (by kernel_rfl) rfl rfl (by kernel_rfl) rfl (fun w hS => K.QR.ldN [.int .i64 (((l.map back1).getD i d3).at_), .int .u64 (((l.map back1).getD i d3).old), .int .u64 (((l.map back1).getD i d3).new)] rfl rfl (by kernel_rfl) (by kernel_rfl) (K.cells (K.cl ((K.Own.rowE d3 hS.2 rfl (fun _ => rfl)).ld i (by omega) 0 _ rfl) (K.cl ((K.Own.rowE d3 hS.2 rfl (fun _ => rfl)).ld i (by omega) 1 _ rfl) (K.cl ((K.Own.rowE d3 hS.2 rfl (fun _ => rfl)).ld i (by omega) 2 _ rfl) K.cl0))))) hS132 ?_
            refine K.DW.q 4 (by kernel_rfl) rfl rfl (by kernel_rfl) rfl (fun w hS => K.QR.k (v := .slice (some ⟨b127, of128, none⟩) l.length cap') (by kernel_rfl)) hS132 ?_
            refine K.DW.q 5 (by kernel_rfl) rfl rfl (by kernel_rfl) rfl (fun w hS => K.QR.k (v := .int .i64 ((i : Nat) : Int)) (by kernel_rfl)) hS132 ?_
            refine K.DW.q 6 (by kernel_rfl) rfl rfl (by kernel_rfl) rfl (fun w hS => K.QR.ix (of128 + i * 3) 3 rfl rfl rfl Try.underlying42 (by kernel_rfl) (by omega) (by simp)) hS132 ?_
            refine K.DW.q 7 (by kernel_rfl) rfl rfl (by kernel_rfl) rfl (fun w hS => K.QR.k (v := .pointer (some ⟨b127, of128 + i * 3, none⟩)) (by kernel_rfl)) hS132 ?_
            refine K.DW.q 8 (by kernel_rfl) rfl rfl (by kernel_rfl) rfl (fun w hS => K.QR.ld1 (v := .int .i64 ((l.getD i d3).at_)) rfl rfl (by kernel_rfl) (hS.1.cell (hl.ld i (by omega) 0 _ rfl) id)) hS132 ?_
            refine K.DW.q 9 (by kernel_rfl) rfl rfl (by kernel_rfl) rfl (fun w hS => K.QR.k (v := .slice (some ⟨b127, of128, none⟩) l.length cap') (by kernel_rfl)) hS132 ?_
            refine K.DW.q 10 (by kernel_rfl) rfl rfl (by kernel_rfl) rfl (fun w hS => K.QR.k (v := .int .i64 ((i : Nat) : Int)) (by kernel_rfl)) hS132 ?_
            refine K.DW.q 11 (by kernel_rfl) rfl rfl (by kernel_rfl) rfl (fun w hS => K.QR.ix (of128 + i * 3) 3 rfl rfl rfl Try.underlying42 (by kernel_rfl) (by omega) (by simp)) hS132 ?_
            refine K.DW.q 12 (by kernel_rfl) rfl rfl (by kernel_rfl) rfl (fun w hS => K.QR.k (v := .pointer (some ⟨b127, of128 + i * 3 + 2, none⟩)) (by kernel_rfl)) hS132 ?_
            refine K.DW.q 13 (by kernel_rfl) rfl rfl (by kernel_rfl) rfl (fun w hS => K.QR.ld1 (v := .int .u64 ((l.getD i d3).new)) rfl rfl (by kernel_rfl) (hS.1.cell (hl.ld i (by omega) 2 _ rfl) id)) hS132 ?_
            refine K.DW.q 14 (by kernel_rfl) rfl rfl (by kernel_rfl) rfl (fun w hS => K.QR.k (v := .slice (some ⟨b127, of128, none⟩) l.length cap') (by kernel_rfl)) hS132 ?_
            refine K.DW.q 15 (by kernel_rfl) rfl rfl (by kernel_rfl) rfl (fun w hS => K.QR.k (v := .int .i64 ((i : Nat) : Int)) (by kernel_rfl)) hS132 ?_
            refine K.DW.q 16 (by kernel_rfl) rfl rfl (by kernel_rfl) rfl (fun w hS => K.QR.ix (of128 + i * 3) 3 rfl rfl rfl Try.underlying42 (by kernel_rfl) (by omega) (by simp)) hS132 ?_
            refine K.DW.q 17 (by kernel_rfl) rfl rfl (by kernel_rfl) rfl (fun w hS => K.QR.k (v := .pointer (some ⟨b127, of128 + i * 3 + 1, none⟩)) (by kernel_rfl)) hS132 ?_
            refine K.DW.q 18 (by kernel_rfl) rfl rfl (by kernel_rfl) rfl (fun w hS => K.QR.ld1 (v := .int .u64 ((l.getD i d3).old)) rfl rfl (by kernel_rfl) (hS.1.cell (hl.ld i (by omega) 1 _ rfl) id)) hS132 ?_
            refine K.DW.q 19 (by kernel_rfl) rfl rfl (by kernel_rfl) rfl (fun w hS => K.QR.bd [(0, .int .i64 ((l.getD i d3).at_)), (1, .int .u64 ((l.getD i d3).new)), (2, .int .u64 ((l.getD i d3).old))] [.int .i64 ((l.getD i d3).at_), .int .u64 ((l.getD i d3).new), .int .u64 ((l.getD i d3).old)] rfl rfl (by kernel_rfl)) hS132 ?_
            refine K.DW.q 20 (by kernel_rfl) rfl rfl (by kernel_rfl) rfl (fun w hS => K.QR.neS (by kernel_rfl) rfl rfl rfl (eqC_t (by rw [map_back_getD (by omega)]; exact ⟨rfl, rfl, rfl⟩))) hS132 ?_
            refine K.DW.done (by kernel_rfl) ?_
            refine K.thn_normal ?_
            refine K.KW.ifF rfl ?_
            refine K.KW.skip ?_
            refine K.blk_normal ?_
            refine K.thn_normal ?_
            -- region 10 law.go:74
            refine K.KW.region ?_
            refine K.RW.q rfl rfl (K.QR.k (v := .int .i64 ((i : Nat) : Int)) (by kernel_rfl)) ?_
            refine K.RW.q rfl rfl (K.QR.n64 ((((i : Nat) : Int) : Int) + (1 : Int)) ((i + 1 : Nat) : Int) (by kernel_rfl) (by omega)) ?_
            refine K.RW.q rfl rfl (K.QR.k (v := .int .i64 ((i + 1 : Nat) : Int)) (by kernel_rfl)) ?_
            refine K.RW.nil ?_
            refine K.thn_normal ?_
            refine ⟨_, ?_, i + 1, rfl, ⟨by rfl, by rfl, by rfl, by rfl, trivial⟩, (by omega), c133, f135, f136, f137, f138, f139⟩
            omega
          ·  -- no
            refine K.RW.q rfl rfl (K.QR.nice (v := .bool (decide ((((i : Nat) : Int) : Int) < (((l.length : Nat) : Int) : Int)))) (by kernel_rfl) (congrArg Value.bool (decide_eq_false h122))) ?_
            refine K.RW.nil ?_
            refine K.thn_normal ?_
            refine K.KW.ifF rfl ?_
            refine K.KW.exit ?_
            refine K.thn_exit ?_
            refine K.thn_exit ?_
            refine K.blk_hit ?_
            refine K.thn_normal ?_
            refine K.KW.seq ?_
            refine K.KW.seq ?_
            -- region 13 law.go:79
            refine K.KW.region ?_
            refine K.RW.q rfl rfl (K.QR.k (v := .slice b l.length cap') (by kernel_rfl)) ?_
            refine K.RW.l rfl (K.OW.call rfl [.slice b l.length cap'] rfl rfl (by kernel_rfl) (right_ok _ _ l _ (by first | omega | (simp; omega) | simp) (hl.no c114)) ?_) 
            rintro v143 w141 ⟨hv142, c140⟩
            have c144 := c114.no c140
            have z145 := c144.size
            have f146 := f116.no c140
            have f147 := f117.no c140
            have f148 := f118.no c140
            have f149 := f119.no c140
            have f150 := f120.no c140
            have hb151 : right l = true := hb78
            rw [hb151] at hv142; subst hv142
            refine K.RW.q rfl rfl (K.QR.k (v := .bool false) (by kernel_rfl)) ?_
            refine K.RW.nil ?_
            refine K.thn_normal ?_
            refine K.KW.ifF rfl ?_
            refine K.KW.skip ?_
            refine K.thn_normal ?_
            refine K.KW.seq ?_
            -- region 15 law.go:82
            refine K.KW.region ?_
            refine K.RW.q rfl rfl (K.QR.k (v := .slice b l.length cap') (by kernel_rfl)) ?_
            refine K.RW.l rfl (K.OW.call rfl [.slice b l.length cap'] rfl rfl (by kernel_rfl) (lines_ok _ _ l _ (by first | omega | (simp; omega) | (simp; done)) (by assumption) hw (hl.no c144)) ?_) 
            rintro _ w158 ⟨r152, m153, cc154, rfl, c155, o156, rfl⟩
            have c159 := c144.no c155
            have z160 := c159.size
            have f161 := f146.no c155
            have f162 := f147.no c155
            have f163 := f148.no c155
            have f164 := f149.no c155
            have f165 := f150.no c155
            have o166 := K.Own.mono (base' := w0.heap.size) o156 (by omega)
            refine K.RW.q rfl rfl (K.QR.k (v := .slice r152 ((linesTo l l.length).length) cc154) (by kernel_rfl)) ?_
            refine K.RW.nil ?_
            refine K.thn_normal ?_
            refine K.KW.seq ?_
            -- region 16 law.go:83
            refine K.KW.region ?_
            refine K.RW.q rfl rfl (K.QR.k (v := .int .i64 0) (by kernel_rfl)) ?_
            refine K.RW.nil ?_
            refine K.thn_normal ?_
            refine K.KW.seq ?_
            refine K.KW.seq ?_
            -- region 17 law.go:84
            refine K.KW.region ?_
            refine K.RW.q rfl rfl (K.QR.k (v := .int .i64 0) (by kernel_rfl)) ?_
            refine K.RW.nil ?_
            refine K.thn_normal ?_
            refine K.KW.block ?_
            refine K.KW.loop (fun m F w167 => ∃ (j : Nat), m = l.length - j ∧ K.Sl F [(0, .slice a xs.length cap), (1, .slice b l.length cap'), (11, .slice r152 ((linesTo l l.length).length) cc154), (12, .int .i64 (((linesTo l j).length : Nat) : Int)), (13, .int .i64 ((j : Nat) : Int))] ∧ j ≤ l.length ∧ K.Chg K.No w0 w167 ∧ K.Own w167 w0.heap.size 22 1 r11 (((apply xs l).2).length) cc13 (((apply xs l).2).flatMap cU64) ∧ K.Own w167 w0.heap.size 97 3 r21 l.length cc23 ((l).flatMap chgC) ∧ K.Own w167 w0.heap.size 22 1 r32 (((apply xs l).2).length) cc34 (((apply xs l).2).flatMap cU64) ∧ K.Own w167 w0.heap.size 46 3 r44 ((l.map back1).length) cc46 (((l.map back1)).flatMap chgC) ∧ K.Own w167 w0.heap.size 97 3 r79 l.length cc81 ((l).flatMap chgC) ∧ K.Own w167 w0.heap.size 3 1 r152 ((linesTo l l.length).length) cc154 (((linesTo l l.length)).flatMap cI64)) ((fun (j : Nat) => l.length - j) 0) ?_ ?_
            · -- the loop begins
              exact ⟨0, rfl, ⟨by rfl, by rfl, by rfl, by rfl, by rfl, trivial⟩, (by omega), c159, f161, f162, f163, f164, f165, o166⟩
            · -- a round
              intro m174 F175 w167 hI
              obtain ⟨j, rfl, sl176, p178, c177, f179, f180, f181, f182, f183, f184⟩ := hI
              rw [← K.Sl.puts sl176]; clear sl176
              have z185 := c177.size
              have hk0 : j < l.length → 0 ≤ (l.getD j d3).at_ := fun h => right_ge (by assumption) h
              have hk1 := hw j
              have hk2 : j - 1 < l.length → 0 ≤ (l.getD (j - 1) d3).at_ := fun h => right_ge (by assumption) h
              have hk3 := hw (j - 1)
              have hk4 := linesTo_le l j
              refine K.KW.seq ?_
              refine K.KW.seq ?_
              -- region 18 law.go:84
              refine K.KW.region ?_
              refine K.RW.q rfl rfl (K.QR.k (v := .int .i64 ((j : Nat) : Int)) (by kernel_rfl)) ?_
              refine K.RW.q rfl rfl (K.QR.k (v := .slice b l.length cap') (by kernel_rfl)) ?_
              refine K.RW.q rfl rfl (K.QR.len (P := Try.prog) rfl rfl Try.underlying42) ?_
              by_cases h186 : (((j : Nat) : Int) : Int) < (((l.length : Nat) : Int) : Int)
              ·  -- yes
                refine K.RW.q rfl rfl (K.QR.nice (v := .bool (decide ((((j : Nat) : Int) : Int) < (((l.length : Nat) : Int) : Int)))) (by kernel_rfl) (congrArg Value.bool (decide_eq_true h186))) ?_
                refine K.RW.nil ?_
                refine K.thn_normal ?_
                refine K.KW.ifT rfl ?_
                refine K.KW.skip ?_
                refine K.thn_normal ?_
                refine K.KW.seq ?_
                refine K.KW.block ?_
                refine K.KW.seq ?_
                -- region 20 law.go:85
                obtain ⟨b187, of188, rfl, _⟩ := hl.at_ (by omega)
                refine K.KW.drawn (fun w => K.Chg K.No w0 w) (by kernel_rfl) ?_
                intro w189 e190 hs191
                have c193 := c177.no e190
                have z194 := c193.size
                have f195 := f179.no e190
                have f196 := f180.no e190
                have f197 := f181.no e190
                have f198 := f182.no e190
                have f199 := f183.no e190
                have f200 := f184.no e190
                have hS192 : (fun w => K.Chg K.No w0 w) w189 := c193
                refine K.DW.q 0 (by kernel_rfl) rfl rfl (by kernel_rfl) rfl (fun w hS => K.QR.k (v := .int .i64 ((j : Nat) : Int)) (by kernel_rfl)) hS192 ?_
                by_cases h201 : (((j : Nat) : Int) : Int) = (0 : Int)
                ·  -- yes
                  refine K.DW.q 1 (by kernel_rfl) rfl rfl (by kernel_rfl) rfl (fun w hS => K.QR.nice (v := .bool ((((j : Nat) : Int) : Int) == (0 : Int))) (by kernel_rfl) (congrArg Value.bool (beq_iff_eq.2 h201))) hS192 ?_
                  refine K.DW.q 2 (by kernel_rfl) rfl rfl (by kernel_rfl) rfl (fun w hS => K.QR.k (v := .bool true) (by kernel_rfl)) hS192 ?_
                  refine K.DW.skip 3 (by kernel_rfl) rfl rfl (by kernel_rfl) (by kernel_rfl) hS192 ?_
                  refine K.DW.skip 4 (by kernel_rfl) rfl rfl (by kernel_rfl) (by kernel_rfl) hS192 ?_
                  refine K.DW.skip 5 (by kernel_rfl) rfl rfl (by kernel_rfl) (by kernel_rfl) hS192 ?_
                  refine K.DW.skip 6 (by kernel_rfl) rfl rfl (by kernel_rfl) (by kernel_rfl) hS192 ?_
                  refine K.DW.skip 7 (by kernel_rfl) rfl rfl (by kernel_rfl) (by kernel_rfl) hS192 ?_
                  refine K.DW.skip 8 (by kernel_rfl) rfl rfl (by kernel_rfl) (by kernel_rfl) hS192 ?_
                  refine K.DW.skip 9 (by kernel_rfl) rfl rfl (by kernel_rfl) (by kernel_rfl) hS192 ?_
                  refine K.DW.skip 10 (by kernel_rfl) rfl rfl (by kernel_rfl) (by kernel_rfl) hS192 ?_
                  refine K.DW.skip 11 (by kernel_rfl) rfl rfl (by kernel_rfl) (by kernel_rfl) hS192 ?_
                  refine K.DW.skip 12 (by kernel_rfl) rfl rfl (by kernel_rfl) (by kernel_rfl) hS192 ?_
                  refine K.DW.skip 13 (by kernel_rfl) rfl rfl (by kernel_rfl) (by kernel_rfl) hS192 ?_
                  refine K.DW.skip 14 (by kernel_rfl) rfl rfl (by kernel_rfl) (by kernel_rfl) hS192 ?_
                  refine K.DW.skip 15 (by kernel_rfl) rfl rfl (by kernel_rfl) (by kernel_rfl) hS192 ?_
                  refine K.DW.skip 16 (by kernel_rfl) rfl rfl (by kernel_rfl) (by kernel_rfl) hS192 ?_
                  refine K.DW.q 17 (by kernel_rfl) rfl rfl (by kernel_rfl) rfl (fun w hS => K.QR.k (v := .bool true) (by kernel_rfl)) hS192 ?_
                  refine K.DW.done (by kernel_rfl) ?_
                  refine K.thn_normal ?_
                  refine K.KW.ifT rfl ?_
                  refine K.KW.seq ?_
                  refine K.KW.seq ?_
                  -- region 21 law.go:86
                  have hgt := (linesTo_at (l := l) (k := j) (N := l.length) (by omega) (by unfold newLn lnOf; omega)).2
                  obtain ⟨b202, rfl, gb204, gl205⟩ := f200.some_ (by omega)
                  refine K.KW.drawn (fun w => K.Chg K.No w0 w ∧ K.Own w w0.heap.size 3 1 (some ⟨b202, 0, none⟩) ((linesTo l l.length).length) cc154 (((linesTo l l.length)).flatMap cI64)) (by kernel_rfl) ?_
                  intro w206 e207 hs208
                  have c210 := c193.no e207
                  have z211 := c210.size
                  have f212 := f195.no e207
                  have f213 := f196.no e207
                  have f214 := f197.no e207
                  have f215 := f198.no e207
                  have f216 := f199.no e207
                  have f217 := f200.no e207
                  have hS209 : (fun w => K.Chg K.No w0 w ∧ K.Own w w0.heap.size 3 1 (some ⟨b202, 0, none⟩) ((linesTo l l.length).length) cc154 (((linesTo l l.length)).flatMap cI64)) w206 := ⟨c210, f217⟩
                  refine K.DW.q 0 (by kernel_rfl) rfl rfl (by kernel_rfl) rfl (fun w hS => K.QR.k (v := .int .i64 (((linesTo l j).length : Nat) : Int)) (by kernel_rfl)) hS209 ?_
                  refine K.DW.q 1 (by kernel_rfl) rfl rfl (by kernel_rfl) rfl (fun w hS => K.QR.k (v := .slice (some ⟨b202, 0, none⟩) ((linesTo l l.length).length) cc154) (by kernel_rfl)) hS209 ?_
                  refine K.DW.q 2 (by kernel_rfl) rfl rfl (by kernel_rfl) rfl (fun w hS => K.QR.len (P := Try.prog) rfl rfl Try.underlying56) hS209 ?_
                  refine K.DW.q 3 (by kernel_rfl) rfl rfl (by kernel_rfl) rfl (fun w hS => K.QR.nice (v := .bool (decide (((((linesTo l j).length : Nat) : Int) : Int) ≥ ((((linesTo l l.length).length : Nat) : Int) : Int)))) (by kernel_rfl) (congrArg Value.bool (decide_eq_false (by have := (linesTo_at (l := l) (k := j) (N := l.length) (by omega) (by unfold newLn lnOf; omega)).2; omega)))) hS209 ?_
                  refine K.DW.q 4 (by kernel_rfl) rfl rfl (by kernel_rfl) rfl (fun w hS => K.QR.k (v := .bool false) (by kernel_rfl)) hS209 ?_
                  refine K.DW.q 5 (by kernel_rfl) rfl rfl (by kernel_rfl) (by kernel_rfl) (fun w hS => K.QR.k (v := .slice (some ⟨b202, 0, none⟩) ((linesTo l l.length).length) cc154) (by kernel_rfl)) hS209 ?_
                  refine K.DW.q 6 (by kernel_rfl) rfl rfl (by kernel_rfl) (by kernel_rfl) (fun w hS => K.QR.k (v := .int .i64 (((linesTo l j).length : Nat) : Int)) (by kernel_rfl)) hS209 ?_
                  refine K.DW.q 7 (by kernel_rfl) rfl rfl (by kernel_rfl) (by kernel_rfl) (fun w hS => K.QR.ix (0 + ((linesTo l j).length) * 1) 1 rfl rfl rfl Try.underlying56 (by kernel_rfl) (by omega) (by simp)) hS209 ?_
                  refine K.DW.q 8 (by kernel_rfl) rfl rfl (by kernel_rfl) (by kernel_rfl) (fun w hS => K.QR.ld1 (v := .int .i64 ((linesTo l l.length).getD ((linesTo l j).length) 0)) rfl rfl (by kernel_rfl) ((K.Own.rowE 0 hS.2 rfl (fun _ => rfl)).ld ((linesTo l j).length) (by omega) 0 _ rfl)) hS209 ?_
                  refine K.DW.q 9 (by kernel_rfl) rfl rfl (by kernel_rfl) (by kernel_rfl) (fun w hS => K.QR.k (v := .slice (some ⟨b187, of188, none⟩) l.length cap') (by kernel_rfl)) hS209 ?_
                  refine K.DW.q 10 (by kernel_rfl) rfl rfl (by kernel_rfl) (by kernel_rfl) (fun w hS => K.QR.k (v := .int .i64 ((j : Nat) : Int)) (by kernel_rfl)) hS209 ?_
                  refine K.DW.q 11 (by kernel_rfl) rfl rfl (by kernel_rfl) (by kernel_rfl) (fun w hS => K.QR.ix (of188 + j * 3) 3 rfl rfl rfl Try.underlying42 (by kernel_rfl) (by omega) (by simp)) hS209 ?_
                  refine K.DW.q 12 (by kernel_rfl) rfl rfl (by kernel_rfl) (by kernel_rfl) (fun w hS => K.QR.k (v := .pointer (some ⟨b187, of188 + j * 3, none⟩)) (by kernel_rfl)) hS209 ?_
                  refine K.DW.q 13 (by kernel_rfl) rfl rfl (by kernel_rfl) (by kernel_rfl) (fun w hS => K.QR.ld1 (v := .int .i64 ((l.getD j d3).at_)) rfl rfl (by kernel_rfl) (hS.1.cell (hl.ld j (by omega) 0 _ rfl) id)) hS209 ?_
                  refine K.DW.q 14 (by kernel_rfl) rfl rfl (by kernel_rfl) (by kernel_rfl) (fun w hS => K.QR.quoi64 ((l.getD j d3).at_ : Int) 8 (((l.getD j d3).at_ : Int) / 8) (by kernel_rfl) (by omega) (by omega)) hS209 ?_
                  refine K.DW.q 15 (by kernel_rfl) rfl rfl (by kernel_rfl) (by kernel_rfl) (fun w hS => K.QR.nice (v := .bool (((linesTo l l.length).getD ((linesTo l j).length) 0 : Int) != (((l.getD j d3).at_ : Int) / 8 : Int))) (by kernel_rfl) (congrArg Value.bool (bne_eq_false_iff_eq.2 (by rw [(linesTo_at (l := l) (k := j) (N := l.length) (by omega) (by unfold newLn lnOf; omega)).1]; rfl)))) hS209 ?_
                  refine K.DW.q 16 (by kernel_rfl) rfl rfl (by kernel_rfl) rfl (fun w hS => K.QR.k (v := .bool false) (by kernel_rfl)) hS209 ?_
                  refine K.DW.done (by kernel_rfl) ?_
                  refine K.thn_normal ?_
                  refine K.KW.ifF rfl ?_
                  refine K.KW.skip ?_
                  refine K.thn_normal ?_
                  -- region 23 law.go:89
                  refine K.KW.region ?_
                  refine K.RW.q rfl rfl (K.QR.k (v := .int .i64 (((linesTo l j).length : Nat) : Int)) (by kernel_rfl)) ?_
                  refine K.RW.q rfl rfl (K.QR.n64 (((((linesTo l j).length : Nat) : Int) : Int) + (1 : Int)) (((linesTo l j).length + 1 : Nat) : Int) (by kernel_rfl) (by omega)) ?_
                  refine K.RW.q rfl rfl (K.QR.k (v := .int .i64 (((linesTo l j).length + 1 : Nat) : Int)) (by kernel_rfl)) ?_
                  refine K.RW.nil ?_
                  refine K.blk_normal ?_
                  refine K.thn_normal ?_
                  -- region 19 law.go:84
                  refine K.KW.region ?_
                  refine K.RW.q rfl rfl (K.QR.k (v := .int .i64 ((j : Nat) : Int)) (by kernel_rfl)) ?_
                  refine K.RW.q rfl rfl (K.QR.n64 ((((j : Nat) : Int) : Int) + (1 : Int)) ((j + 1 : Nat) : Int) (by kernel_rfl) (by omega)) ?_
                  refine K.RW.q rfl rfl (K.QR.k (v := .int .i64 ((j + 1 : Nat) : Int)) (by kernel_rfl)) ?_
                  refine K.RW.nil ?_
                  refine K.thn_normal ?_
                  refine ⟨_, ?_, j + 1, rfl, ⟨by rfl, by rfl, by rfl, by first | (show Value.int .i64 _ = _; rw [linesTo_new (by unfold newLn lnOf; omega)]; simp; done) | (show Value.int .i64 _ = _; rw [linesTo_old (by unfold newLn lnOf; omega)]), by rfl, trivial⟩, (by omega), c210, f212, f213, f214, f215, f216, f217⟩
                  omega
                ·  -- no
                  refine K.DW.q 1 (by kernel_rfl) rfl rfl (by kernel_rfl) rfl (fun w hS => K.QR.nice (v := .bool ((((j : Nat) : Int) : Int) == (0 : Int))) (by kernel_rfl) (congrArg Value.bool (beq_eq_false_iff_ne.2 h201))) hS192 ?_
                  refine K.DW.q 2 (by kernel_rfl) rfl rfl (by kernel_rfl) rfl (fun w hS => K.QR.k (v := .bool false) (by kernel_rfl)) hS192 ?_
                  refine K.DW.q 3 (by kernel_rfl) rfl rfl (by kernel_rfl) (by kernel_rfl) (fun w hS => K.QR.k (v := .slice (some ⟨b187, of188, none⟩) l.length cap') (by kernel_rfl)) hS192 ?_
                  refine K.DW.q 4 (by kernel_rfl) rfl rfl (by kernel_rfl) (by kernel_rfl) (fun w hS => K.QR.k (v := .int .i64 ((j : Nat) : Int)) (by kernel_rfl)) hS192 ?_
                  refine K.DW.q 5 (by kernel_rfl) rfl rfl (by kernel_rfl) (by kernel_rfl) (fun w hS => K.QR.ix (of188 + j * 3) 3 rfl rfl rfl Try.underlying42 (by kernel_rfl) (by omega) (by simp)) hS192 ?_
                  refine K.DW.q 6 (by kernel_rfl) rfl rfl (by kernel_rfl) (by kernel_rfl) (fun w hS => K.QR.k (v := .pointer (some ⟨b187, of188 + j * 3, none⟩)) (by kernel_rfl)) hS192 ?_
                  refine K.DW.q 7 (by kernel_rfl) rfl rfl (by kernel_rfl) (by kernel_rfl) (fun w hS => K.QR.ld1 (v := .int .i64 ((l.getD j d3).at_)) rfl rfl (by kernel_rfl) (hS.cell (hl.ld j (by omega) 0 _ rfl) id)) hS192 ?_
                  refine K.DW.q 8 (by kernel_rfl) rfl rfl (by kernel_rfl) (by kernel_rfl) (fun w hS => K.QR.quoi64 ((l.getD j d3).at_ : Int) 8 (((l.getD j d3).at_ : Int) / 8) (by kernel_rfl) (by omega) (by omega)) hS192 ?_
                  refine K.DW.q 9 (by kernel_rfl) rfl rfl (by kernel_rfl) (by kernel_rfl) (fun w hS => K.QR.k (v := .slice (some ⟨b187, of188, none⟩) l.length cap') (by kernel_rfl)) hS192 ?_
                  refine K.DW.q 10 (by kernel_rfl) rfl rfl (by kernel_rfl) (by kernel_rfl) (fun w hS => K.QR.k (v := .int .i64 ((j : Nat) : Int)) (by kernel_rfl)) hS192 ?_
                  refine K.DW.q 11 (by kernel_rfl) rfl rfl (by kernel_rfl) (by kernel_rfl) (fun w hS => K.QR.n64 ((((j : Nat) : Int) : Int) - (1 : Int)) ((j - 1 : Nat) : Int) (by kernel_rfl) (by omega)) hS192 ?_
                  refine K.DW.q 12 (by kernel_rfl) rfl rfl (by kernel_rfl) (by kernel_rfl) (fun w hS => K.QR.ix (of188 + (j - 1) * 3) 3 rfl rfl rfl Try.underlying42 (by kernel_rfl) (by omega) (by simp)) hS192 ?_
                  refine K.DW.q 13 (by kernel_rfl) rfl rfl (by kernel_rfl) (by kernel_rfl) (fun w hS => K.QR.k (v := .pointer (some ⟨b187, of188 + (j - 1) * 3, none⟩)) (by kernel_rfl)) hS192 ?_
                  refine K.DW.q 14 (by kernel_rfl) rfl rfl (by kernel_rfl) (by kernel_rfl) (fun w hS => K.QR.ld1 (v := .int .i64 ((l.getD (j - 1) d3).at_)) rfl rfl (by kernel_rfl) (hS.cell (hl.ld (j - 1) (by omega) 0 _ rfl) id)) hS192 ?_
                  refine K.DW.q 15 (by kernel_rfl) rfl rfl (by kernel_rfl) (by kernel_rfl) (fun w hS => K.QR.quoi64 ((l.getD (j - 1) d3).at_ : Int) 8 (((l.getD (j - 1) d3).at_ : Int) / 8) (by kernel_rfl) (by omega) (by omega)) hS192 ?_
                  by_cases h218 : (((l.getD j d3).at_ : Int) / 8 : Int) = (((l.getD (j - 1) d3).at_ : Int) / 8 : Int)
                  ·  -- yes
                    refine K.DW.q 16 (by kernel_rfl) rfl rfl (by kernel_rfl) (by kernel_rfl) (fun w hS => K.QR.nice (v := .bool ((((l.getD j d3).at_ : Int) / 8 : Int) != (((l.getD (j - 1) d3).at_ : Int) / 8 : Int))) (by kernel_rfl) (congrArg Value.bool (bne_eq_false_iff_eq.2 h218))) hS192 ?_
                    refine K.DW.q 17 (by kernel_rfl) rfl rfl (by kernel_rfl) rfl (fun w hS => K.QR.k (v := .bool false) (by kernel_rfl)) hS192 ?_
                    refine K.DW.done (by kernel_rfl) ?_
                    refine K.thn_normal ?_
                    refine K.KW.ifF rfl ?_
                    refine K.KW.skip ?_
                    refine K.blk_normal ?_
                    refine K.thn_normal ?_
                    -- region 19 law.go:84
                    refine K.KW.region ?_
                    refine K.RW.q rfl rfl (K.QR.k (v := .int .i64 ((j : Nat) : Int)) (by kernel_rfl)) ?_
                    refine K.RW.q rfl rfl (K.QR.n64 ((((j : Nat) : Int) : Int) + (1 : Int)) ((j + 1 : Nat) : Int) (by kernel_rfl) (by omega)) ?_
                    refine K.RW.q rfl rfl (K.QR.k (v := .int .i64 ((j + 1 : Nat) : Int)) (by kernel_rfl)) ?_
                    refine K.RW.nil ?_
                    refine K.thn_normal ?_
                    refine ⟨_, ?_, j + 1, rfl, ⟨by rfl, by rfl, by rfl, by first | (show Value.int .i64 _ = _; rw [linesTo_new (by unfold newLn lnOf; omega)]; simp; done) | (show Value.int .i64 _ = _; rw [linesTo_old (by unfold newLn lnOf; omega)]), by rfl, trivial⟩, (by omega), c193, f195, f196, f197, f198, f199, f200⟩
                    omega
                  ·  -- no
                    refine K.DW.q 16 (by kernel_rfl) rfl rfl (by kernel_rfl) (by kernel_rfl) (fun w hS => K.QR.nice (v := .bool ((((l.getD j d3).at_ : Int) / 8 : Int) != (((l.getD (j - 1) d3).at_ : Int) / 8 : Int))) (by kernel_rfl) (congrArg Value.bool (bne_iff_ne.2 h218))) hS192 ?_
                    refine K.DW.q 17 (by kernel_rfl) rfl rfl (by kernel_rfl) rfl (fun w hS => K.QR.k (v := .bool true) (by kernel_rfl)) hS192 ?_
                    refine K.DW.done (by kernel_rfl) ?_
                    refine K.thn_normal ?_
                    refine K.KW.ifT rfl ?_
                    refine K.KW.seq ?_
                    refine K.KW.seq ?_
                    -- region 21 law.go:86
                    have hgt := (linesTo_at (l := l) (k := j) (N := l.length) (by omega) (by unfold newLn lnOf; omega)).2
                    obtain ⟨b219, rfl, gb221, gl222⟩ := f200.some_ (by omega)
                    refine K.KW.drawn (fun w => K.Chg K.No w0 w ∧ K.Own w w0.heap.size 3 1 (some ⟨b219, 0, none⟩) ((linesTo l l.length).length) cc154 (((linesTo l l.length)).flatMap cI64)) (by kernel_rfl) ?_
                    intro w223 e224 hs225
                    have c227 := c193.no e224
                    have z228 := c227.size
                    have f229 := f195.no e224
                    have f230 := f196.no e224
                    have f231 := f197.no e224
                    have f232 := f198.no e224
                    have f233 := f199.no e224
                    have f234 := f200.no e224
                    have hS226 : (fun w => K.Chg K.No w0 w ∧ K.Own w w0.heap.size 3 1 (some ⟨b219, 0, none⟩) ((linesTo l l.length).length) cc154 (((linesTo l l.length)).flatMap cI64)) w223 := ⟨c227, f234⟩
                    refine K.DW.q 0 (by kernel_rfl) rfl rfl (by kernel_rfl) rfl (fun w hS => K.QR.k (v := .int .i64 (((linesTo l j).length : Nat) : Int)) (by kernel_rfl)) hS226 ?_
                    refine K.DW.q 1 (by kernel_rfl) rfl rfl (by kernel_rfl) rfl (fun w hS => K.QR.k (v := .slice (some ⟨b219, 0, none⟩) ((linesTo l l.length).length) cc154) (by kernel_rfl)) hS226 ?_
                    refine K.DW.q 2 (by kernel_rfl) rfl rfl (by kernel_rfl) rfl (fun w hS => K.QR.len (P := Try.prog) rfl rfl Try.underlying56) hS226 ?_
                    refine K.DW.q 3 (by kernel_rfl) rfl rfl (by kernel_rfl) rfl (fun w hS => K.QR.nice (v := .bool (decide (((((linesTo l j).length : Nat) : Int) : Int) ≥ ((((linesTo l l.length).length : Nat) : Int) : Int)))) (by kernel_rfl) (congrArg Value.bool (decide_eq_false (by have := (linesTo_at (l := l) (k := j) (N := l.length) (by omega) (by unfold newLn lnOf; omega)).2; omega)))) hS226 ?_
                    refine K.DW.q 4 (by kernel_rfl) rfl rfl (by kernel_rfl) rfl (fun w hS => K.QR.k (v := .bool false) (by kernel_rfl)) hS226 ?_
                    refine K.DW.q 5 (by kernel_rfl) rfl rfl (by kernel_rfl) (by kernel_rfl) (fun w hS => K.QR.k (v := .slice (some ⟨b219, 0, none⟩) ((linesTo l l.length).length) cc154) (by kernel_rfl)) hS226 ?_
                    refine K.DW.q 6 (by kernel_rfl) rfl rfl (by kernel_rfl) (by kernel_rfl) (fun w hS => K.QR.k (v := .int .i64 (((linesTo l j).length : Nat) : Int)) (by kernel_rfl)) hS226 ?_
                    refine K.DW.q 7 (by kernel_rfl) rfl rfl (by kernel_rfl) (by kernel_rfl) (fun w hS => K.QR.ix (0 + ((linesTo l j).length) * 1) 1 rfl rfl rfl Try.underlying56 (by kernel_rfl) (by omega) (by simp)) hS226 ?_
                    refine K.DW.q 8 (by kernel_rfl) rfl rfl (by kernel_rfl) (by kernel_rfl) (fun w hS => K.QR.ld1 (v := .int .i64 ((linesTo l l.length).getD ((linesTo l j).length) 0)) rfl rfl (by kernel_rfl) ((K.Own.rowE 0 hS.2 rfl (fun _ => rfl)).ld ((linesTo l j).length) (by omega) 0 _ rfl)) hS226 ?_
                    refine K.DW.q 9 (by kernel_rfl) rfl rfl (by kernel_rfl) (by kernel_rfl) (fun w hS => K.QR.k (v := .slice (some ⟨b187, of188, none⟩) l.length cap') (by kernel_rfl)) hS226 ?_
                    refine K.DW.q 10 (by kernel_rfl) rfl rfl (by kernel_rfl) (by kernel_rfl) (fun w hS => K.QR.k (v := .int .i64 ((j : Nat) : Int)) (by kernel_rfl)) hS226 ?_
                    refine K.DW.q 11 (by kernel_rfl) rfl rfl (by kernel_rfl) (by kernel_rfl) (fun w hS => K.QR.ix (of188 + j * 3) 3 rfl rfl rfl Try.underlying42 (by kernel_rfl) (by omega) (by simp)) hS226 ?_
                    refine K.DW.q 12 (by kernel_rfl) rfl rfl (by kernel_rfl) (by kernel_rfl) (fun w hS => K.QR.k (v := .pointer (some ⟨b187, of188 + j * 3, none⟩)) (by kernel_rfl)) hS226 ?_
                    refine K.DW.q 13 (by kernel_rfl) rfl rfl (by kernel_rfl) (by kernel_rfl) (fun w hS => K.QR.ld1 (v := .int .i64 ((l.getD j d3).at_)) rfl rfl (by kernel_rfl) (hS.1.cell (hl.ld j (by omega) 0 _ rfl) id)) hS226 ?_
                    refine K.DW.q 14 (by kernel_rfl) rfl rfl (by kernel_rfl) (by kernel_rfl) (fun w hS => K.QR.quoi64 ((l.getD j d3).at_ : Int) 8 (((l.getD j d3).at_ : Int) / 8) (by kernel_rfl) (by omega) (by omega)) hS226 ?_
                    refine K.DW.q 15 (by kernel_rfl) rfl rfl (by kernel_rfl) (by kernel_rfl) (fun w hS => K.QR.nice (v := .bool (((linesTo l l.length).getD ((linesTo l j).length) 0 : Int) != (((l.getD j d3).at_ : Int) / 8 : Int))) (by kernel_rfl) (congrArg Value.bool (bne_eq_false_iff_eq.2 (by rw [(linesTo_at (l := l) (k := j) (N := l.length) (by omega) (by unfold newLn lnOf; omega)).1]; rfl)))) hS226 ?_
                    refine K.DW.q 16 (by kernel_rfl) rfl rfl (by kernel_rfl) rfl (fun w hS => K.QR.k (v := .bool false) (by kernel_rfl)) hS226 ?_
                    refine K.DW.done (by kernel_rfl) ?_
                    refine K.thn_normal ?_
                    refine K.KW.ifF rfl ?_
                    refine K.KW.skip ?_
                    refine K.thn_normal ?_
                    -- region 23 law.go:89
                    refine K.KW.region ?_
                    refine K.RW.q rfl rfl (K.QR.k (v := .int .i64 (((linesTo l j).length : Nat) : Int)) (by kernel_rfl)) ?_
                    refine K.RW.q rfl rfl (K.QR.n64 (((((linesTo l j).length : Nat) : Int) : Int) + (1 : Int)) (((linesTo l j).length + 1 : Nat) : Int) (by kernel_rfl) (by omega)) ?_
                    refine K.RW.q rfl rfl (K.QR.k (v := .int .i64 (((linesTo l j).length + 1 : Nat) : Int)) (by kernel_rfl)) ?_
                    refine K.RW.nil ?_
                    refine K.blk_normal ?_
                    refine K.thn_normal ?_
                    -- region 19 law.go:84
                    refine K.KW.region ?_
                    refine K.RW.q rfl rfl (K.QR.k (v := .int .i64 ((j : Nat) : Int)) (by kernel_rfl)) ?_
                    refine K.RW.q rfl rfl (K.QR.n64 ((((j : Nat) : Int) : Int) + (1 : Int)) ((j + 1 : Nat) : Int) (by kernel_rfl) (by omega)) ?_
                    refine K.RW.q rfl rfl (K.QR.k (v := .int .i64 ((j + 1 : Nat) : Int)) (by kernel_rfl)) ?_
                    refine K.RW.nil ?_
                    refine K.thn_normal ?_
                    refine ⟨_, ?_, j + 1, rfl, ⟨by rfl, by rfl, by rfl, by first | (show Value.int .i64 _ = _; rw [linesTo_new (by unfold newLn lnOf; omega)]; simp; done) | (show Value.int .i64 _ = _; rw [linesTo_old (by unfold newLn lnOf; omega)]), by rfl, trivial⟩, (by omega), c227, f229, f230, f231, f232, f233, f234⟩
                    omega
              ·  -- no
                refine K.RW.q rfl rfl (K.QR.nice (v := .bool (decide ((((j : Nat) : Int) : Int) < (((l.length : Nat) : Int) : Int)))) (by kernel_rfl) (congrArg Value.bool (decide_eq_false h186))) ?_
                refine K.RW.nil ?_
                refine K.thn_normal ?_
                refine K.KW.ifF rfl ?_
                refine K.KW.exit ?_
                refine K.thn_exit ?_
                refine K.thn_exit ?_
                refine K.blk_hit ?_
                refine K.thn_normal ?_
                refine K.KW.seq ?_
                -- region 24 law.go:92
                refine K.KW.region ?_
                refine K.RW.l rfl (K.OW.call rfl [] rfl rfl (by kernel_rfl) (awake34_ok _) ?_) 
                rintro _ w236 ⟨rfl, c235⟩
                have c237 := c177.no c235
                have z238 := c237.size
                have f239 := f179.no c235
                have f240 := f180.no c235
                have f241 := f181.no c235
                have f242 := f182.no c235
                have f243 := f183.no c235
                have f244 := f184.no c235
                refine K.RW.q rfl rfl (K.QR.k (v := .bool true) (by kernel_rfl)) ?_
                refine K.RW.q rfl (by kernel_rfl) (K.QR.k (v := .int .i64 (((linesTo l j).length : Nat) : Int)) (by kernel_rfl)) ?_
                refine K.RW.q rfl (by kernel_rfl) (K.QR.k (v := .slice r152 ((linesTo l l.length).length) cc154) (by kernel_rfl)) ?_
                refine K.RW.q rfl (by kernel_rfl) (K.QR.len (P := Try.prog) rfl rfl Try.underlying56) ?_
                refine K.RW.q rfl (by kernel_rfl) (K.QR.nice (v := .bool (((((linesTo l j).length : Nat) : Int) : Int) == ((((linesTo l l.length).length : Nat) : Int) : Int))) (by kernel_rfl) (congrArg Value.bool (beq_iff_eq.2 (by rw [show j = l.length by omega])))) ?_
                refine K.RW.q rfl rfl (K.QR.k (v := .bool true) (by kernel_rfl)) ?_
                refine K.RW.q rfl rfl (K.QR.k (v := .bool true) (by kernel_rfl)) ?_
                refine K.RW.nil ?_
                refine K.thn_normal ?_
                refine K.KW.ret ?_
                refine ⟨.inr rfl, (.bool true), K.res1 rfl rfl, ?_⟩
                exact ⟨rfl, c237⟩
      ·  -- False
        rw [hb78] at hv70; subst hv70
        refine K.RW.q rfl (by kernel_rfl) (K.QR.k (v := .slice b l.length cap') (by kernel_rfl)) ?_
        refine K.RW.l (by kernel_rfl) (K.OW.call rfl [.slice b l.length cap'] rfl rfl (by kernel_rfl) (as_ok _ _ l _ (by first | omega | (simp; omega) | (simp; done)) (hl.no c72)) ?_) 
        rintro _ w251 ⟨r245, m246, cc247, rfl, c248, o249, rfl⟩
        have c252 := c72.no c248
        have z253 := c252.size
        have f254 := f74.no c248
        have f255 := f75.no c248
        have f256 := f76.no c248
        have f257 := f77.no c248
        have o258 := K.Own.mono (base' := w0.heap.size) o249 (by omega)
        refine K.RW.l (by kernel_rfl) (K.OW.call rfl [.slice r245 l.length cc247] rfl rfl (by kernel_rfl) (rright_ok _ _ l _ (by first | omega | (simp; omega) | (simp; done)) (K.Own.rowE d3 o258 rfl (fun _ => rfl))) ?_) 
        rintro v262 w260 ⟨hv261, c259⟩
        have c263 := c252.no c259
        have z264 := c263.size
        have f265 := f254.no c259
        have f266 := f255.no c259
        have f267 := f256.no c259
        have f268 := f257.no c259
        have f269 := o258.no c259
        have hb270 : right l = false := hb78
        rw [hb270] at hv261; subst hv261
        refine K.RW.q rfl (by kernel_rfl) (K.QR.k (v := .bool false) (by kernel_rfl)) ?_
        refine K.RW.q rfl rfl (K.QR.k (v := .bool false) (by kernel_rfl)) ?_
        refine K.RW.q rfl rfl (K.QR.k (v := .bool false) (by kernel_rfl)) ?_
        refine K.RW.q rfl (by kernel_rfl) (K.QR.k (v := .slice r44 ((l.map back1).length) cc46) (by kernel_rfl)) ?_
        refine K.RW.q rfl (by kernel_rfl) (K.QR.len (P := Try.prog) rfl rfl Try.underlying42) ?_
        refine K.RW.q rfl (by kernel_rfl) (K.QR.k (v := .slice b l.length cap') (by kernel_rfl)) ?_
        refine K.RW.q rfl (by kernel_rfl) (K.QR.len (P := Try.prog) rfl rfl Try.underlying42) ?_
        refine K.RW.q rfl (by kernel_rfl) (K.QR.nice (v := .bool (((((l.map back1).length : Nat) : Int) : Int) != (((l.length : Nat) : Int) : Int))) (by kernel_rfl) (congrArg Value.bool (bne_eq_false_iff_eq.2 (by simp)))) ?_
        refine K.RW.q rfl rfl (K.QR.k (v := .bool false) (by kernel_rfl)) ?_
        refine K.RW.nil ?_
        refine K.thn_normal ?_
        refine K.KW.ifF rfl ?_
        refine K.KW.skip ?_
        refine K.thn_normal ?_
        refine K.KW.seq ?_
        refine K.KW.seq ?_
        -- region 8 law.go:74
        refine K.KW.region ?_
        refine K.RW.q rfl rfl (K.QR.k (v := .int .i64 0) (by kernel_rfl)) ?_
        refine K.RW.nil ?_
        refine K.thn_normal ?_
        refine K.KW.block ?_
        refine K.KW.loop (fun m F w271 => ∃ (i : Nat), m = l.length - i ∧ K.Sl F [(0, .slice a xs.length cap), (1, .slice b l.length cap'), (9, .slice r44 ((l.map back1).length) cc46), (10, .int .i64 ((i : Nat) : Int))] ∧ i ≤ l.length ∧ K.Chg K.No w0 w271 ∧ K.Own w271 w0.heap.size 22 1 r11 (((apply xs l).2).length) cc13 (((apply xs l).2).flatMap cU64) ∧ K.Own w271 w0.heap.size 97 3 r21 l.length cc23 ((l).flatMap chgC) ∧ K.Own w271 w0.heap.size 22 1 r32 (((apply xs l).2).length) cc34 (((apply xs l).2).flatMap cU64) ∧ K.Own w271 w0.heap.size 46 3 r44 ((l.map back1).length) cc46 (((l.map back1)).flatMap chgC) ∧ K.Own w271 w0.heap.size 97 3 r245 l.length cc247 ((l).flatMap chgC)) ((fun (i : Nat) => l.length - i) 0) ?_ ?_
        · -- the loop begins
          exact ⟨0, rfl, ⟨by rfl, by rfl, by rfl, by rfl, trivial⟩, (by omega), c263, f265, f266, f267, f268, f269⟩
        · -- a round
          intro m277 F278 w271 hI
          obtain ⟨i, rfl, sl279, p281, c280, f282, f283, f284, f285, f286⟩ := hI
          rw [← K.Sl.puts sl279]; clear sl279
          have z287 := c280.size
          have hlm : (l.map back1).length = l.length := by simp
          refine K.KW.seq ?_
          refine K.KW.seq ?_
          -- region 9 law.go:74
          refine K.KW.region ?_
          refine K.RW.q rfl rfl (K.QR.k (v := .int .i64 ((i : Nat) : Int)) (by kernel_rfl)) ?_
          refine K.RW.q rfl rfl (K.QR.k (v := .slice b l.length cap') (by kernel_rfl)) ?_
          refine K.RW.q rfl rfl (K.QR.len (P := Try.prog) rfl rfl Try.underlying42) ?_
          by_cases h288 : (((i : Nat) : Int) : Int) < (((l.length : Nat) : Int) : Int)
          ·  -- yes
            refine K.RW.q rfl rfl (K.QR.nice (v := .bool (decide ((((i : Nat) : Int) : Int) < (((l.length : Nat) : Int) : Int)))) (by kernel_rfl) (congrArg Value.bool (decide_eq_true h288))) ?_
            refine K.RW.nil ?_
            refine K.thn_normal ?_
            refine K.KW.ifT rfl ?_
            refine K.KW.skip ?_
            refine K.thn_normal ?_
            refine K.KW.seq ?_
            refine K.KW.block ?_
            refine K.KW.seq ?_
            -- region 11 law.go:75
            obtain ⟨b289, rfl, gb291, gl292⟩ := f285.some_ (by omega)
            obtain ⟨b293, of294, rfl, _⟩ := hl.at_ (by omega)
            refine K.KW.drawn (fun w => K.Chg K.No w0 w ∧ K.Own w w0.heap.size 46 3 (some ⟨b289, 0, none⟩) ((l.map back1).length) cc46 (((l.map back1)).flatMap chgC)) (by kernel_rfl) ?_
            intro w295 e296 hs297
            have c299 := c280.no e296
            have z300 := c299.size
            have f301 := f282.no e296
            have f302 := f283.no e296
            have f303 := f284.no e296
            have f304 := f285.no e296
            have f305 := f286.no e296
            have hS298 : (fun w => K.Chg K.No w0 w ∧ K.Own w w0.heap.size 46 3 (some ⟨b289, 0, none⟩) ((l.map back1).length) cc46 (((l.map back1)).flatMap chgC)) w295 := ⟨c299, f304⟩
            refine K.DW.q 0 (by kernel_rfl) rfl rfl (by kernel_rfl) rfl (fun w hS => K.QR.k (v := .slice (some ⟨b289, 0, none⟩) ((l.map back1).length) cc46) (by kernel_rfl)) hS298 ?_
            refine K.DW.q 1 (by kernel_rfl) rfl rfl (by kernel_rfl) rfl (fun w hS => K.QR.k (v := .int .i64 ((i : Nat) : Int)) (by kernel_rfl)) hS298 ?_
            refine K.DW.q 2 (by kernel_rfl) rfl rfl (by kernel_rfl) rfl (fun w hS => K.QR.ix (0 + i * 3) 3 rfl rfl rfl Try.underlying42 (by kernel_rfl) (by omega) (by simp)) hS298 ?_
            refine K.DW.q 3 (by kernel_rfl) rfl rfl (by kernel_rfl) rfl (fun w hS => K.QR.ldN [.int .i64 (((l.map back1).getD i d3).at_), .int .u64 (((l.map back1).getD i d3).old), .int .u64 (((l.map back1).getD i d3).new)] rfl rfl (by kernel_rfl) (by kernel_rfl) (K.cells (K.cl ((K.Own.rowE d3 hS.2 rfl (fun _ => rfl)).ld i (by omega) 0 _ rfl) (K.cl ((K.Own.rowE d3 hS.2 rfl (fun _ => rfl)).ld i (by omega) 1 _ rfl) (K.cl ((K.Own.rowE d3 hS.2 rfl (fun _ => rfl)).ld i (by omega) 2 _ rfl) K.cl0))))) hS298 ?_
            refine K.DW.q 4 (by kernel_rfl) rfl rfl (by kernel_rfl) rfl (fun w hS => K.QR.k (v := .slice (some ⟨b293, of294, none⟩) l.length cap') (by kernel_rfl)) hS298 ?_
            refine K.DW.q 5 (by kernel_rfl) rfl rfl (by kernel_rfl) rfl (fun w hS => K.QR.k (v := .int .i64 ((i : Nat) : Int)) (by kernel_rfl)) hS298 ?_
            refine K.DW.q 6 (by kernel_rfl) rfl rfl (by kernel_rfl) rfl (fun w hS => K.QR.ix (of294 + i * 3) 3 rfl rfl rfl Try.underlying42 (by kernel_rfl) (by omega) (by simp)) hS298 ?_
            refine K.DW.q 7 (by kernel_rfl) rfl rfl (by kernel_rfl) rfl (fun w hS => K.QR.k (v := .pointer (some ⟨b293, of294 + i * 3, none⟩)) (by kernel_rfl)) hS298 ?_
            refine K.DW.q 8 (by kernel_rfl) rfl rfl (by kernel_rfl) rfl (fun w hS => K.QR.ld1 (v := .int .i64 ((l.getD i d3).at_)) rfl rfl (by kernel_rfl) (hS.1.cell (hl.ld i (by omega) 0 _ rfl) id)) hS298 ?_
            refine K.DW.q 9 (by kernel_rfl) rfl rfl (by kernel_rfl) rfl (fun w hS => K.QR.k (v := .slice (some ⟨b293, of294, none⟩) l.length cap') (by kernel_rfl)) hS298 ?_
            refine K.DW.q 10 (by kernel_rfl) rfl rfl (by kernel_rfl) rfl (fun w hS => K.QR.k (v := .int .i64 ((i : Nat) : Int)) (by kernel_rfl)) hS298 ?_
            refine K.DW.q 11 (by kernel_rfl) rfl rfl (by kernel_rfl) rfl (fun w hS => K.QR.ix (of294 + i * 3) 3 rfl rfl rfl Try.underlying42 (by kernel_rfl) (by omega) (by simp)) hS298 ?_
            refine K.DW.q 12 (by kernel_rfl) rfl rfl (by kernel_rfl) rfl (fun w hS => K.QR.k (v := .pointer (some ⟨b293, of294 + i * 3 + 2, none⟩)) (by kernel_rfl)) hS298 ?_
            refine K.DW.q 13 (by kernel_rfl) rfl rfl (by kernel_rfl) rfl (fun w hS => K.QR.ld1 (v := .int .u64 ((l.getD i d3).new)) rfl rfl (by kernel_rfl) (hS.1.cell (hl.ld i (by omega) 2 _ rfl) id)) hS298 ?_
            refine K.DW.q 14 (by kernel_rfl) rfl rfl (by kernel_rfl) rfl (fun w hS => K.QR.k (v := .slice (some ⟨b293, of294, none⟩) l.length cap') (by kernel_rfl)) hS298 ?_
            refine K.DW.q 15 (by kernel_rfl) rfl rfl (by kernel_rfl) rfl (fun w hS => K.QR.k (v := .int .i64 ((i : Nat) : Int)) (by kernel_rfl)) hS298 ?_
            refine K.DW.q 16 (by kernel_rfl) rfl rfl (by kernel_rfl) rfl (fun w hS => K.QR.ix (of294 + i * 3) 3 rfl rfl rfl Try.underlying42 (by kernel_rfl) (by omega) (by simp)) hS298 ?_
            refine K.DW.q 17 (by kernel_rfl) rfl rfl (by kernel_rfl) rfl (fun w hS => K.QR.k (v := .pointer (some ⟨b293, of294 + i * 3 + 1, none⟩)) (by kernel_rfl)) hS298 ?_
            refine K.DW.q 18 (by kernel_rfl) rfl rfl (by kernel_rfl) rfl (fun w hS => K.QR.ld1 (v := .int .u64 ((l.getD i d3).old)) rfl rfl (by kernel_rfl) (hS.1.cell (hl.ld i (by omega) 1 _ rfl) id)) hS298 ?_
            refine K.DW.q 19 (by kernel_rfl) rfl rfl (by kernel_rfl) rfl (fun w hS => K.QR.bd [(0, .int .i64 ((l.getD i d3).at_)), (1, .int .u64 ((l.getD i d3).new)), (2, .int .u64 ((l.getD i d3).old))] [.int .i64 ((l.getD i d3).at_), .int .u64 ((l.getD i d3).new), .int .u64 ((l.getD i d3).old)] rfl rfl (by kernel_rfl)) hS298 ?_
            refine K.DW.q 20 (by kernel_rfl) rfl rfl (by kernel_rfl) rfl (fun w hS => K.QR.neS (by kernel_rfl) rfl rfl rfl (eqC_t (by rw [map_back_getD (by omega)]; exact ⟨rfl, rfl, rfl⟩))) hS298 ?_
            refine K.DW.done (by kernel_rfl) ?_
            refine K.thn_normal ?_
            refine K.KW.ifF rfl ?_
            refine K.KW.skip ?_
            refine K.blk_normal ?_
            refine K.thn_normal ?_
            -- region 10 law.go:74
            refine K.KW.region ?_
            refine K.RW.q rfl rfl (K.QR.k (v := .int .i64 ((i : Nat) : Int)) (by kernel_rfl)) ?_
            refine K.RW.q rfl rfl (K.QR.n64 ((((i : Nat) : Int) : Int) + (1 : Int)) ((i + 1 : Nat) : Int) (by kernel_rfl) (by omega)) ?_
            refine K.RW.q rfl rfl (K.QR.k (v := .int .i64 ((i + 1 : Nat) : Int)) (by kernel_rfl)) ?_
            refine K.RW.nil ?_
            refine K.thn_normal ?_
            refine ⟨_, ?_, i + 1, rfl, ⟨by rfl, by rfl, by rfl, by rfl, trivial⟩, (by omega), c299, f301, f302, f303, f304, f305⟩
            omega
          ·  -- no
            refine K.RW.q rfl rfl (K.QR.nice (v := .bool (decide ((((i : Nat) : Int) : Int) < (((l.length : Nat) : Int) : Int)))) (by kernel_rfl) (congrArg Value.bool (decide_eq_false h288))) ?_
            refine K.RW.nil ?_
            refine K.thn_normal ?_
            refine K.KW.ifF rfl ?_
            refine K.KW.exit ?_
            refine K.thn_exit ?_
            refine K.thn_exit ?_
            refine K.blk_hit ?_
            refine K.thn_normal ?_
            refine K.KW.seq ?_
            refine K.KW.seq ?_
            -- region 13 law.go:79
            refine K.KW.region ?_
            refine K.RW.q rfl rfl (K.QR.k (v := .slice b l.length cap') (by kernel_rfl)) ?_
            refine K.RW.l rfl (K.OW.call rfl [.slice b l.length cap'] rfl rfl (by kernel_rfl) (right_ok _ _ l _ (by first | omega | (simp; omega) | simp) (hl.no c280)) ?_) 
            rintro v309 w307 ⟨hv308, c306⟩
            have c310 := c280.no c306
            have z311 := c310.size
            have f312 := f282.no c306
            have f313 := f283.no c306
            have f314 := f284.no c306
            have f315 := f285.no c306
            have f316 := f286.no c306
            have hb317 : right l = false := hb78
            rw [hb317] at hv308; subst hv308
            refine K.RW.q rfl rfl (K.QR.k (v := .bool true) (by kernel_rfl)) ?_
            refine K.RW.nil ?_
            refine K.thn_normal ?_
            refine K.KW.ifT rfl ?_
            refine K.KW.seq ?_
            -- region 14 law.go:80
            refine K.KW.region ?_
            refine K.RW.l rfl (K.OW.call rfl [] rfl rfl (by kernel_rfl) (awake34_ok _) ?_) 
            rintro _ w319 ⟨rfl, c318⟩
            have c320 := c310.no c318
            have z321 := c320.size
            have f322 := f312.no c318
            have f323 := f313.no c318
            have f324 := f314.no c318
            have f325 := f315.no c318
            have f326 := f316.no c318
            refine K.RW.q rfl rfl (K.QR.k (v := .bool true) (by kernel_rfl)) ?_
            refine K.RW.nil ?_
            refine K.thn_normal ?_
            refine K.KW.ret ?_
            refine K.thn_ret ?_
            refine ⟨.inr rfl, (.bool true), K.res1 rfl rfl, ?_⟩
            exact ⟨rfl, c320⟩

end Go.Proofs.Ytcmlompigmhddaa
