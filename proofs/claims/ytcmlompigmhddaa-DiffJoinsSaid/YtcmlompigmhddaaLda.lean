/- DiffApplies: a patch applied is the reference; its lines are the ones that change. -/
import Derived.Test.YtcmlompigmhddaaFdref
namespace Go.Proofs.Ytcmlompigmhddaa
open Go.RowKit
set_option linter.unusedVariables false
attribute [local irreducible] K.KW K.RW K.DW K.OW K.QR K.KC

theorem map_back_getD {l : List Chg3} {i : Nat} (h : i < l.length) : (l.map back1).getD i d3 = back1 (l.getD i d3) := by
  simp [List.getD_eq_getElem?_getD, List.getElem?_eq_getElem h]
theorem applyTo_len {xs : List Int} {l : List Chg3} : ∀ k ys, applyTo xs l k = some ys → ys.length = xs.length
  | 0, ys, h => by obtain rfl : xs = ys := Option.some.inj h; rfl
  | k + 1, ys, h => by
    cases hz : applyTo xs l k with
    | none => rw [show applyTo xs l (k + 1) = (applyTo xs l k).bind _ from rfl, hz] at h; cases h
    | some zs =>
      rw [show applyTo xs l (k + 1) = (applyTo xs l k).bind _ from rfl, hz] at h
      have h5 : (if zs.getD (l.getD k d3).at_.toNat 0 = (l.getD k d3).old then some (zs.set (l.getD k d3).at_.toNat (l.getD k d3).new) else none) = some ys := h
      split at h5
      case isFalse => cases h5
      case isTrue =>
        obtain rfl := Option.some.inj h5
        rw [List.length_set]; exact applyTo_len k zs hz
theorem apply_le (xs : List Int) (l : List Chg3) : (apply xs l).2.length ≤ xs.length := by
  unfold apply
  split
  · exact Nat.zero_le _
  · split
    · exact Nat.zero_le _
    · split
      · exact Nat.zero_le _
      · rename_i ys h; exact Nat.le_of_eq (applyTo_len _ _ h)

set_option maxHeartbeats 1000000 in
set_option maxRecDepth 100000 in
theorem lawda_ok (a b : Option Addr) (cap cap' : Nat) (xs : List Int) (l : List Chg3) (w0 : World) (hm0 : xs.length ≤ 9223372036854775807) (hm1 : l.length ≤ 9223372036854775807) (hw : ∀ i, i < l.length → (l.getD i d3).at_ ≤ 9223372036854775807) (hx : RU64 w0 a xs) (hl : RCh w0 b l) :
    K.KC Try.prog 6 #[.slice a xs.length cap, .slice b l.length cap'] w0 (fun v w' => v = .bool true ∧ K.Chg K.No w0 w') := by
  refine K.KC.mk (n := 145) Try.func6 rfl rfl [.slice a xs.length cap, .slice b l.length cap'] rfl rfl ?_
  refine K.KW.seq ?_
  -- region 0 law.go:64
  refine K.KW.region ?_
  refine K.RW.q rfl rfl (K.QR.k (v := .bool false) (by kernel_rfl)) ?_
  refine K.RW.nil ?_
  refine K.thn_normal ?_
  refine K.KW.seq ?_
  refine K.KW.seq ?_
  -- region 1 law.go:65
  refine K.KW.region ?_
  refine K.RW.q rfl rfl (K.QR.k (v := .slice a xs.length cap) (by kernel_rfl)) ?_
  refine K.RW.q rfl rfl (K.QR.len (P := Try.prog) rfl rfl Try.underlying32) ?_
  by_cases h_1 : (((xs.length : Nat) : Int) : Int) > (300 : Int)
  ·  -- yes
    refine K.RW.q rfl rfl (K.QR.nice (v := .bool (decide ((((xs.length : Nat) : Int) : Int) > (300 : Int)))) (by kernel_rfl) (congrArg Value.bool (decide_eq_true h_1))) ?_
    refine K.RW.q rfl rfl (K.QR.k (v := .bool true) (by kernel_rfl)) ?_
    refine K.RW.skip rfl (by kernel_rfl) ?_
    refine K.RW.skip rfl (by kernel_rfl) ?_
    refine K.RW.skip rfl (by kernel_rfl) ?_
    refine K.RW.q rfl rfl (K.QR.k (v := .bool true) (by kernel_rfl)) ?_
    refine K.RW.nil ?_
    refine K.thn_normal ?_
    refine K.KW.ifT rfl ?_
    refine K.KW.seq ?_
    -- region 2 law.go:66
    refine K.KW.region ?_
    refine K.RW.l rfl (K.OW.call rfl [] rfl rfl (by kernel_rfl) (awake34_ok _) ?_) 
    rintro _ w_3 ⟨rfl, c_2⟩
    have c_4 := c_2
    have z_5 := c_4.size
    refine K.RW.q rfl rfl (K.QR.k (v := .bool true) (by kernel_rfl)) ?_
    refine K.RW.nil ?_
    refine K.thn_normal ?_
    refine K.KW.ret ?_
    refine K.thn_ret ?_
    refine ⟨.inr rfl, (.bool true), K.res1 rfl rfl, ?_⟩
    exact ⟨rfl, c_4⟩
  ·  -- no
    refine K.RW.q rfl rfl (K.QR.nice (v := .bool (decide ((((xs.length : Nat) : Int) : Int) > (300 : Int)))) (by kernel_rfl) (congrArg Value.bool (decide_eq_false h_1))) ?_
    refine K.RW.q rfl rfl (K.QR.k (v := .bool false) (by kernel_rfl)) ?_
    refine K.RW.q rfl (by kernel_rfl) (K.QR.k (v := .slice b l.length cap') (by kernel_rfl)) ?_
    refine K.RW.q rfl (by kernel_rfl) (K.QR.len (P := Try.prog) rfl rfl Try.underlying42) ?_
    by_cases h_6 : (((l.length : Nat) : Int) : Int) > (100 : Int)
    ·  -- yes
      refine K.RW.q rfl (by kernel_rfl) (K.QR.nice (v := .bool (decide ((((l.length : Nat) : Int) : Int) > (100 : Int)))) (by kernel_rfl) (congrArg Value.bool (decide_eq_true h_6))) ?_
      refine K.RW.q rfl rfl (K.QR.k (v := .bool true) (by kernel_rfl)) ?_
      refine K.RW.nil ?_
      refine K.thn_normal ?_
      refine K.KW.ifT rfl ?_
      refine K.KW.seq ?_
      -- region 2 law.go:66
      refine K.KW.region ?_
      refine K.RW.l rfl (K.OW.call rfl [] rfl rfl (by kernel_rfl) (awake34_ok _) ?_) 
      rintro _ w_8 ⟨rfl, c_7⟩
      have c_9 := c_7
      have z_10 := c_9.size
      refine K.RW.q rfl rfl (K.QR.k (v := .bool true) (by kernel_rfl)) ?_
      refine K.RW.nil ?_
      refine K.thn_normal ?_
      refine K.KW.ret ?_
      refine K.thn_ret ?_
      refine ⟨.inr rfl, (.bool true), K.res1 rfl rfl, ?_⟩
      exact ⟨rfl, c_9⟩
    ·  -- no
      refine K.RW.q rfl (by kernel_rfl) (K.QR.nice (v := .bool (decide ((((l.length : Nat) : Int) : Int) > (100 : Int)))) (by kernel_rfl) (congrArg Value.bool (decide_eq_false h_6))) ?_
      refine K.RW.q rfl rfl (K.QR.k (v := .bool false) (by kernel_rfl)) ?_
      refine K.RW.nil ?_
      refine K.thn_normal ?_
      refine K.KW.ifF rfl ?_
      refine K.KW.skip ?_
      refine K.thn_normal ?_
      refine K.KW.seq ?_
      -- region 3 law.go:68
      refine K.KW.region ?_
      refine K.RW.q rfl rfl (K.QR.k (v := .slice a xs.length cap) (by kernel_rfl)) ?_
      refine K.RW.q rfl rfl (K.QR.k (v := .slice b l.length cap') (by kernel_rfl)) ?_
      refine K.RW.l rfl (K.OW.call rfl [.slice a xs.length cap, .slice b l.length cap'] rfl rfl (by kernel_rfl) (apply_ok _ _ _ _ xs l _ (by first | omega | (simp; omega) | (simp; done)) (by first | omega | (simp; omega) | (simp; done)) hx hl) ?_) 
      rintro _ w_17 ⟨r_11, m_12, cc_13, rfl, c_14, o_15, rfl⟩
      have c_18 := c_14
      have z_19 := c_18.size
      have o_20 := K.Own.mono (base' := w0.heap.size) o_15 (by omega)
      refine K.RW.q rfl rfl (K.QR.k (v := .tuple #[.slice r_11 (((apply xs l).2).length) cc_13, .int .i64 ((apply xs l).1)]) (by kernel_rfl)) ?_
      refine K.RW.q rfl rfl (K.QR.k (v := .slice r_11 (((apply xs l).2).length) cc_13) (by kernel_rfl)) ?_
      refine K.RW.q rfl rfl (K.QR.k (v := .int .i64 ((apply xs l).1)) (by kernel_rfl)) ?_
      refine K.RW.q rfl rfl (K.QR.k (v := .slice r_11 (((apply xs l).2).length) cc_13) (by kernel_rfl)) ?_
      refine K.RW.q rfl rfl (K.QR.k (v := .int .i64 ((apply xs l).1)) (by kernel_rfl)) ?_
      refine K.RW.nil ?_
      refine K.thn_normal ?_
      refine K.KW.seq ?_
      -- region 4 law.go:69
      refine K.KW.region ?_
      refine K.RW.q rfl rfl (K.QR.k (v := .slice a xs.length cap) (by kernel_rfl)) ?_
      refine K.RW.q rfl rfl (K.QR.k (v := .slice b l.length cap') (by kernel_rfl)) ?_
      refine K.RW.l rfl (K.OW.call rfl [.slice b l.length cap'] rfl rfl (by kernel_rfl) (as_ok _ _ l _ (by first | omega | (simp; omega) | (simp; done)) (hl.no c_18)) ?_) 
      rintro _ w_27 ⟨r_21, m_22, cc_23, rfl, c_24, o_25, rfl⟩
      have c_28 := c_18.no c_24
      have z_29 := c_28.size
      have f_30 := o_20.no c_24
      have o_31 := K.Own.mono (base' := w0.heap.size) o_25 (by omega)
      refine K.RW.l rfl (K.OW.call rfl [.slice a xs.length cap, .slice r_21 l.length cc_23] rfl rfl (by kernel_rfl) (rapply_ok _ _ _ _ xs l _ (by first | omega | (simp; omega) | (simp; done)) (by first | omega | (simp; omega) | (simp; done)) (hx.no c_28) (K.Own.rowE d3 o_31 rfl (fun _ => rfl))) ?_) 
      rintro _ w_38 ⟨r_32, m_33, cc_34, rfl, c_35, o_36, rfl⟩
      have c_39 := c_28.no c_35
      have z_40 := c_39.size
      have f_41 := f_30.no c_35
      have f_42 := o_31.no c_35
      have o_43 := K.Own.mono (base' := w0.heap.size) o_36 (by omega)
      refine K.RW.q rfl rfl (K.QR.k (v := .tuple #[.slice r_32 (((apply xs l).2).length) cc_34, .int .i64 ((apply xs l).1)]) (by kernel_rfl)) ?_
      refine K.RW.q rfl rfl (K.QR.k (v := .slice r_32 (((apply xs l).2).length) cc_34) (by kernel_rfl)) ?_
      refine K.RW.q rfl rfl (K.QR.k (v := .int .i64 ((apply xs l).1)) (by kernel_rfl)) ?_
      refine K.RW.q rfl rfl (K.QR.k (v := .slice r_32 (((apply xs l).2).length) cc_34) (by kernel_rfl)) ?_
      refine K.RW.q rfl rfl (K.QR.k (v := .int .i64 ((apply xs l).1)) (by kernel_rfl)) ?_
      refine K.RW.nil ?_
      refine K.thn_normal ?_
      refine K.KW.seq ?_
      -- region 5 law.go:70
      refine K.KW.region ?_
      refine K.RW.q rfl rfl (K.QR.k (v := .slice b l.length cap') (by kernel_rfl)) ?_
      refine K.RW.l rfl (K.OW.call rfl [.slice b l.length cap'] rfl rfl (by kernel_rfl) (back_ok _ _ l _ (by first | omega | (simp; omega) | (simp; done)) (hl.no c_39)) ?_) 
      rintro _ w_50 ⟨r_44, m_45, cc_46, rfl, c_47, o_48, rfl⟩
      have c_51 := c_39.no c_47
      have z_52 := c_51.size
      have f_53 := f_41.no c_47
      have f_54 := f_42.no c_47
      have f_55 := o_43.no c_47
      have o_56 := K.Own.mono (base' := w0.heap.size) o_48 (by omega)
      refine K.RW.q rfl rfl (K.QR.k (v := .slice r_44 ((l.map back1).length) cc_46) (by kernel_rfl)) ?_
      refine K.RW.nil ?_
      refine K.thn_normal ?_
      refine K.KW.seq ?_
      refine K.KW.seq ?_
      -- region 6 law.go:71
      have hal := apply_le xs l
      refine K.KW.region ?_
      refine K.RW.q rfl rfl (K.QR.k (v := .int .i64 ((apply xs l).1)) (by kernel_rfl)) ?_
      refine K.RW.q rfl rfl (K.QR.k (v := .int .i64 ((apply xs l).1)) (by kernel_rfl)) ?_
      refine K.RW.q rfl rfl (K.QR.nice (v := .bool (((apply xs l).1 : Int) != ((apply xs l).1 : Int))) (by kernel_rfl) (congrArg Value.bool (bne_eq_false_iff_eq.2 rfl))) ?_
      refine K.RW.q rfl rfl (K.QR.k (v := .bool false) (by kernel_rfl)) ?_
      refine K.RW.q rfl (by kernel_rfl) (K.QR.k (v := .slice r_11 (((apply xs l).2).length) cc_13) (by kernel_rfl)) ?_
      refine K.RW.q rfl (by kernel_rfl) (K.QR.k (v := .slice r_32 (((apply xs l).2).length) cc_34) (by kernel_rfl)) ?_
      refine K.RW.l (by kernel_rfl) (K.OW.call rfl [.slice r_11 (((apply xs l).2).length) cc_13, .slice r_32 (((apply xs l).2).length) cc_34] rfl rfl (by kernel_rfl) (same_ok _ _ _ _ ((apply xs l).2) ((apply xs l).2) _ (by first | omega | (simp; omega) | simp) (K.Own.rowE 0 f_53 rfl (fun _ => rfl)) (K.Own.rowE 0 f_55 rfl (fun _ => rfl))) ?_) 
      rintro v_60 w_58 ⟨hv_59, c_57⟩
      have c_61 := c_51.no c_57
      have z_62 := c_61.size
      have f_63 := f_53.no c_57
      have f_64 := f_54.no c_57
      have f_65 := f_55.no c_57
      have f_66 := o_56.no c_57
      have hb_67 : sameB ((apply xs l).2) ((apply xs l).2) = true := (decide_eq_true rfl)
      rw [hb_67] at hv_59; subst hv_59
      refine K.RW.q rfl (by kernel_rfl) (K.QR.k (v := .bool false) (by kernel_rfl)) ?_
      refine K.RW.q rfl rfl (K.QR.k (v := .bool false) (by kernel_rfl)) ?_
      refine K.RW.q rfl rfl (K.QR.k (v := .bool false) (by kernel_rfl)) ?_
      refine K.RW.q rfl (by kernel_rfl) (K.QR.k (v := .slice b l.length cap') (by kernel_rfl)) ?_
      refine K.RW.l (by kernel_rfl) (K.OW.call rfl [.slice b l.length cap'] rfl rfl (by kernel_rfl) (right_ok _ _ l _ (by first | omega | (simp; omega) | simp) (hl.no c_61)) ?_) 
      rintro v_71 w_69 ⟨hv_70, c_68⟩
      have c_72 := c_61.no c_68
      have z_73 := c_72.size
      have f_74 := f_63.no c_68
      have f_75 := f_64.no c_68
      have f_76 := f_65.no c_68
      have f_77 := f_66.no c_68
      rcases Bool.eq_false_or_eq_true (right l) with hb_78 | hb_78
      ·  -- True
        rw [hb_78] at hv_70; subst hv_70
        refine K.RW.q rfl (by kernel_rfl) (K.QR.k (v := .slice b l.length cap') (by kernel_rfl)) ?_
        refine K.RW.l (by kernel_rfl) (K.OW.call rfl [.slice b l.length cap'] rfl rfl (by kernel_rfl) (as_ok _ _ l _ (by first | omega | (simp; omega) | (simp; done)) (hl.no c_72)) ?_) 
        rintro _ w_85 ⟨r_79, m_80, cc_81, rfl, c_82, o_83, rfl⟩
        have c_86 := c_72.no c_82
        have z_87 := c_86.size
        have f_88 := f_74.no c_82
        have f_89 := f_75.no c_82
        have f_90 := f_76.no c_82
        have f_91 := f_77.no c_82
        have o_92 := K.Own.mono (base' := w0.heap.size) o_83 (by omega)
        refine K.RW.l (by kernel_rfl) (K.OW.call rfl [.slice r_79 l.length cc_81] rfl rfl (by kernel_rfl) (rright_ok _ _ l _ (by first | omega | (simp; omega) | (simp; done)) (K.Own.rowE d3 o_92 rfl (fun _ => rfl))) ?_) 
        rintro v_96 w_94 ⟨hv_95, c_93⟩
        have c_97 := c_86.no c_93
        have z_98 := c_97.size
        have f_99 := f_88.no c_93
        have f_100 := f_89.no c_93
        have f_101 := f_90.no c_93
        have f_102 := f_91.no c_93
        have f_103 := o_92.no c_93
        have hb_104 : right l = true := hb_78
        rw [hb_104] at hv_95; subst hv_95
        refine K.RW.q rfl (by kernel_rfl) (K.QR.k (v := .bool false) (by kernel_rfl)) ?_
        refine K.RW.q rfl rfl (K.QR.k (v := .bool false) (by kernel_rfl)) ?_
        refine K.RW.q rfl rfl (K.QR.k (v := .bool false) (by kernel_rfl)) ?_
        refine K.RW.q rfl (by kernel_rfl) (K.QR.k (v := .slice r_44 ((l.map back1).length) cc_46) (by kernel_rfl)) ?_
        refine K.RW.q rfl (by kernel_rfl) (K.QR.len (P := Try.prog) rfl rfl Try.underlying42) ?_
        refine K.RW.q rfl (by kernel_rfl) (K.QR.k (v := .slice b l.length cap') (by kernel_rfl)) ?_
        refine K.RW.q rfl (by kernel_rfl) (K.QR.len (P := Try.prog) rfl rfl Try.underlying42) ?_
        refine K.RW.q rfl (by kernel_rfl) (K.QR.nice (v := .bool (((((l.map back1).length : Nat) : Int) : Int) != (((l.length : Nat) : Int) : Int))) (by kernel_rfl) (congrArg Value.bool (bne_eq_false_iff_eq.2 (by simp)))) ?_
        refine K.RW.q rfl rfl (K.QR.k (v := .bool false) (by kernel_rfl)) ?_
        refine K.RW.nil ?_
        refine K.thn_normal ?_
        refine K.KW.ifF rfl ?_
        refine K.KW.skip ?_
        refine K.thn_normal ?_
        refine K.KW.seq ?_
        refine K.KW.seq ?_
        -- region 8 law.go:74
        refine K.KW.region ?_
        refine K.RW.q rfl rfl (K.QR.k (v := .int .i64 0) (by kernel_rfl)) ?_
        refine K.RW.nil ?_
        refine K.thn_normal ?_
        refine K.KW.block ?_
        refine K.KW.loop (fun m_ F_ w_105 => ∃ (i : Nat), m_ = l.length - i ∧ K.Sl F_ [(0, .slice a xs.length cap), (1, .slice b l.length cap'), (9, .slice r_44 ((l.map back1).length) cc_46), (10, .int .i64 ((i : Nat) : Int))] ∧ i ≤ l.length ∧ K.Chg K.No w0 w_105 ∧ K.Own w_105 w0.heap.size 22 1 r_11 (((apply xs l).2).length) cc_13 (((apply xs l).2).flatMap cU64) ∧ K.Own w_105 w0.heap.size 97 3 r_21 l.length cc_23 ((l).flatMap chgC) ∧ K.Own w_105 w0.heap.size 22 1 r_32 (((apply xs l).2).length) cc_34 (((apply xs l).2).flatMap cU64) ∧ K.Own w_105 w0.heap.size 46 3 r_44 ((l.map back1).length) cc_46 (((l.map back1)).flatMap chgC) ∧ K.Own w_105 w0.heap.size 97 3 r_79 l.length cc_81 ((l).flatMap chgC)) ((fun (i : Nat) => l.length - i) 0) ?_ ?_
        · -- the loop begins
          exact ⟨0, rfl, ⟨by rfl, by rfl, by rfl, by rfl, trivial⟩, (by omega), c_97, f_99, f_100, f_101, f_102, f_103⟩
        · -- a round
          intro m_111 F_112 w_105 hI
          obtain ⟨i, rfl, sl_113, p_115, c_114, f_116, f_117, f_118, f_119, f_120⟩ := hI
          rw [← K.Sl.puts sl_113]; clear sl_113
          have z_121 := c_114.size
          have hlm : (l.map back1).length = l.length := by simp
          refine K.KW.seq ?_
          refine K.KW.seq ?_
          -- region 9 law.go:74
          refine K.KW.region ?_
          refine K.RW.q rfl rfl (K.QR.k (v := .int .i64 ((i : Nat) : Int)) (by kernel_rfl)) ?_
          refine K.RW.q rfl rfl (K.QR.k (v := .slice b l.length cap') (by kernel_rfl)) ?_
          refine K.RW.q rfl rfl (K.QR.len (P := Try.prog) rfl rfl Try.underlying42) ?_
          by_cases h_122 : (((i : Nat) : Int) : Int) < (((l.length : Nat) : Int) : Int)
          ·  -- yes
            refine K.RW.q rfl rfl (K.QR.nice (v := .bool (decide ((((i : Nat) : Int) : Int) < (((l.length : Nat) : Int) : Int)))) (by kernel_rfl) (congrArg Value.bool (decide_eq_true h_122))) ?_
            refine K.RW.nil ?_
            refine K.thn_normal ?_
            refine K.KW.ifT rfl ?_
            refine K.KW.skip ?_
            refine K.thn_normal ?_
            refine K.KW.seq ?_
            refine K.KW.block ?_
            refine K.KW.seq ?_
            -- region 11 law.go:75
            obtain ⟨b_123, rfl, gb_125, gl_126⟩ := f_119.some_ (by omega)
            obtain ⟨b_127, of_128, rfl, _⟩ := hl.at_ (by omega)
            refine K.KW.drawn (fun w => K.Chg K.No w0 w ∧ K.Own w w0.heap.size 46 3 (some ⟨b_123, 0, none⟩) ((l.map back1).length) cc_46 (((l.map back1)).flatMap chgC)) (by kernel_rfl) ?_
            intro w_129 e_130 hs_131
            have c_133 := c_114.no e_130
            have z_134 := c_133.size
            have f_135 := f_116.no e_130
            have f_136 := f_117.no e_130
            have f_137 := f_118.no e_130
            have f_138 := f_119.no e_130
            have f_139 := f_120.no e_130
            have hS_132 : (fun w => K.Chg K.No w0 w ∧ K.Own w w0.heap.size 46 3 (some ⟨b_123, 0, none⟩) ((l.map back1).length) cc_46 (((l.map back1)).flatMap chgC)) w_129 := ⟨c_133, f_138⟩
            refine K.DW.q 0 (by kernel_rfl) rfl rfl (by kernel_rfl) rfl (fun w hS => K.QR.k (v := .slice (some ⟨b_123, 0, none⟩) ((l.map back1).length) cc_46) (by kernel_rfl)) hS_132 ?_
            refine K.DW.q 1 (by kernel_rfl) rfl rfl (by kernel_rfl) rfl (fun w hS => K.QR.k (v := .int .i64 ((i : Nat) : Int)) (by kernel_rfl)) hS_132 ?_
            refine K.DW.q 2 (by kernel_rfl) rfl rfl (by kernel_rfl) rfl (fun w hS => K.QR.ix (0 + i * 3) 3 rfl rfl rfl Try.underlying42 (by kernel_rfl) (by omega) (by simp)) hS_132 ?_
            refine K.DW.q 3 (by kernel_rfl) rfl rfl (by kernel_rfl) rfl (fun w hS => K.QR.ldN [.int .i64 (((l.map back1).getD i d3).at_), .int .u64 (((l.map back1).getD i d3).old), .int .u64 (((l.map back1).getD i d3).new)] rfl rfl (by kernel_rfl) (by kernel_rfl) (K.cells (K.cl ((K.Own.rowE d3 hS.2 rfl (fun _ => rfl)).ld i (by omega) 0 _ rfl) (K.cl ((K.Own.rowE d3 hS.2 rfl (fun _ => rfl)).ld i (by omega) 1 _ rfl) (K.cl ((K.Own.rowE d3 hS.2 rfl (fun _ => rfl)).ld i (by omega) 2 _ rfl) K.cl0))))) hS_132 ?_
            refine K.DW.q 4 (by kernel_rfl) rfl rfl (by kernel_rfl) rfl (fun w hS => K.QR.k (v := .slice (some ⟨b_127, of_128, none⟩) l.length cap') (by kernel_rfl)) hS_132 ?_
            refine K.DW.q 5 (by kernel_rfl) rfl rfl (by kernel_rfl) rfl (fun w hS => K.QR.k (v := .int .i64 ((i : Nat) : Int)) (by kernel_rfl)) hS_132 ?_
            refine K.DW.q 6 (by kernel_rfl) rfl rfl (by kernel_rfl) rfl (fun w hS => K.QR.ix (of_128 + i * 3) 3 rfl rfl rfl Try.underlying42 (by kernel_rfl) (by omega) (by simp)) hS_132 ?_
            refine K.DW.q 7 (by kernel_rfl) rfl rfl (by kernel_rfl) rfl (fun w hS => K.QR.k (v := .pointer (some ⟨b_127, of_128 + i * 3, none⟩)) (by kernel_rfl)) hS_132 ?_
            refine K.DW.q 8 (by kernel_rfl) rfl rfl (by kernel_rfl) rfl (fun w hS => K.QR.ld1 (v := .int .i64 ((l.getD i d3).at_)) rfl rfl (by kernel_rfl) (hS.1.cell (hl.ld i (by omega) 0 _ rfl) id)) hS_132 ?_
            refine K.DW.q 9 (by kernel_rfl) rfl rfl (by kernel_rfl) rfl (fun w hS => K.QR.k (v := .slice (some ⟨b_127, of_128, none⟩) l.length cap') (by kernel_rfl)) hS_132 ?_
            refine K.DW.q 10 (by kernel_rfl) rfl rfl (by kernel_rfl) rfl (fun w hS => K.QR.k (v := .int .i64 ((i : Nat) : Int)) (by kernel_rfl)) hS_132 ?_
            refine K.DW.q 11 (by kernel_rfl) rfl rfl (by kernel_rfl) rfl (fun w hS => K.QR.ix (of_128 + i * 3) 3 rfl rfl rfl Try.underlying42 (by kernel_rfl) (by omega) (by simp)) hS_132 ?_
            refine K.DW.q 12 (by kernel_rfl) rfl rfl (by kernel_rfl) rfl (fun w hS => K.QR.k (v := .pointer (some ⟨b_127, of_128 + i * 3 + 2, none⟩)) (by kernel_rfl)) hS_132 ?_
            refine K.DW.q 13 (by kernel_rfl) rfl rfl (by kernel_rfl) rfl (fun w hS => K.QR.ld1 (v := .int .u64 ((l.getD i d3).new)) rfl rfl (by kernel_rfl) (hS.1.cell (hl.ld i (by omega) 2 _ rfl) id)) hS_132 ?_
            refine K.DW.q 14 (by kernel_rfl) rfl rfl (by kernel_rfl) rfl (fun w hS => K.QR.k (v := .slice (some ⟨b_127, of_128, none⟩) l.length cap') (by kernel_rfl)) hS_132 ?_
            refine K.DW.q 15 (by kernel_rfl) rfl rfl (by kernel_rfl) rfl (fun w hS => K.QR.k (v := .int .i64 ((i : Nat) : Int)) (by kernel_rfl)) hS_132 ?_
            refine K.DW.q 16 (by kernel_rfl) rfl rfl (by kernel_rfl) rfl (fun w hS => K.QR.ix (of_128 + i * 3) 3 rfl rfl rfl Try.underlying42 (by kernel_rfl) (by omega) (by simp)) hS_132 ?_
            refine K.DW.q 17 (by kernel_rfl) rfl rfl (by kernel_rfl) rfl (fun w hS => K.QR.k (v := .pointer (some ⟨b_127, of_128 + i * 3 + 1, none⟩)) (by kernel_rfl)) hS_132 ?_
            refine K.DW.q 18 (by kernel_rfl) rfl rfl (by kernel_rfl) rfl (fun w hS => K.QR.ld1 (v := .int .u64 ((l.getD i d3).old)) rfl rfl (by kernel_rfl) (hS.1.cell (hl.ld i (by omega) 1 _ rfl) id)) hS_132 ?_
            refine K.DW.q 19 (by kernel_rfl) rfl rfl (by kernel_rfl) rfl (fun w hS => K.QR.bd [(0, .int .i64 ((l.getD i d3).at_)), (1, .int .u64 ((l.getD i d3).new)), (2, .int .u64 ((l.getD i d3).old))] [.int .i64 ((l.getD i d3).at_), .int .u64 ((l.getD i d3).new), .int .u64 ((l.getD i d3).old)] rfl rfl (by kernel_rfl)) hS_132 ?_
            refine K.DW.q 20 (by kernel_rfl) rfl rfl (by kernel_rfl) rfl (fun w hS => K.QR.neS (by kernel_rfl) rfl rfl rfl (eqC_t (by rw [map_back_getD (by omega)]; exact ⟨rfl, rfl, rfl⟩))) hS_132 ?_
            refine K.DW.done (by kernel_rfl) ?_
            refine K.thn_normal ?_
            refine K.KW.ifF rfl ?_
            refine K.KW.skip ?_
            refine K.blk_normal ?_
            refine K.thn_normal ?_
            -- region 10 law.go:74
            refine K.KW.region ?_
            refine K.RW.q rfl rfl (K.QR.k (v := .int .i64 ((i : Nat) : Int)) (by kernel_rfl)) ?_
            refine K.RW.q rfl rfl (K.QR.n64 ((((i : Nat) : Int) : Int) + (1 : Int)) ((i + 1 : Nat) : Int) (by kernel_rfl) (by omega)) ?_
            refine K.RW.q rfl rfl (K.QR.k (v := .int .i64 ((i + 1 : Nat) : Int)) (by kernel_rfl)) ?_
            refine K.RW.nil ?_
            refine K.thn_normal ?_
            refine ⟨_, ?_, i + 1, rfl, ⟨by rfl, by rfl, by rfl, by rfl, trivial⟩, (by omega), c_133, f_135, f_136, f_137, f_138, f_139⟩
            omega
          ·  -- no
            refine K.RW.q rfl rfl (K.QR.nice (v := .bool (decide ((((i : Nat) : Int) : Int) < (((l.length : Nat) : Int) : Int)))) (by kernel_rfl) (congrArg Value.bool (decide_eq_false h_122))) ?_
            refine K.RW.nil ?_
            refine K.thn_normal ?_
            refine K.KW.ifF rfl ?_
            refine K.KW.exit ?_
            refine K.thn_exit ?_
            refine K.thn_exit ?_
            refine K.blk_hit ?_
            refine K.thn_normal ?_
            refine K.KW.seq ?_
            refine K.KW.seq ?_
            -- region 13 law.go:79
            refine K.KW.region ?_
            refine K.RW.q rfl rfl (K.QR.k (v := .slice b l.length cap') (by kernel_rfl)) ?_
            refine K.RW.l rfl (K.OW.call rfl [.slice b l.length cap'] rfl rfl (by kernel_rfl) (right_ok _ _ l _ (by first | omega | (simp; omega) | simp) (hl.no c_114)) ?_) 
            rintro v_143 w_141 ⟨hv_142, c_140⟩
            have c_144 := c_114.no c_140
            have z_145 := c_144.size
            have f_146 := f_116.no c_140
            have f_147 := f_117.no c_140
            have f_148 := f_118.no c_140
            have f_149 := f_119.no c_140
            have f_150 := f_120.no c_140
            have hb_151 : right l = true := hb_78
            rw [hb_151] at hv_142; subst hv_142
            refine K.RW.q rfl rfl (K.QR.k (v := .bool false) (by kernel_rfl)) ?_
            refine K.RW.nil ?_
            refine K.thn_normal ?_
            refine K.KW.ifF rfl ?_
            refine K.KW.skip ?_
            refine K.thn_normal ?_
            refine K.KW.seq ?_
            -- region 15 law.go:82
            refine K.KW.region ?_
            refine K.RW.q rfl rfl (K.QR.k (v := .slice b l.length cap') (by kernel_rfl)) ?_
            refine K.RW.l rfl (K.OW.call rfl [.slice b l.length cap'] rfl rfl (by kernel_rfl) (lines_ok _ _ l _ (by first | omega | (simp; omega) | (simp; done)) (by assumption) hw (hl.no c_144)) ?_) 
            rintro _ w_158 ⟨r_152, m_153, cc_154, rfl, c_155, o_156, rfl⟩
            have c_159 := c_144.no c_155
            have z_160 := c_159.size
            have f_161 := f_146.no c_155
            have f_162 := f_147.no c_155
            have f_163 := f_148.no c_155
            have f_164 := f_149.no c_155
            have f_165 := f_150.no c_155
            have o_166 := K.Own.mono (base' := w0.heap.size) o_156 (by omega)
            refine K.RW.q rfl rfl (K.QR.k (v := .slice r_152 ((linesTo l l.length).length) cc_154) (by kernel_rfl)) ?_
            refine K.RW.nil ?_
            refine K.thn_normal ?_
            refine K.KW.seq ?_
            -- region 16 law.go:83
            refine K.KW.region ?_
            refine K.RW.q rfl rfl (K.QR.k (v := .int .i64 0) (by kernel_rfl)) ?_
            refine K.RW.nil ?_
            refine K.thn_normal ?_
            refine K.KW.seq ?_
            refine K.KW.seq ?_
            -- region 17 law.go:84
            refine K.KW.region ?_
            refine K.RW.q rfl rfl (K.QR.k (v := .int .i64 0) (by kernel_rfl)) ?_
            refine K.RW.nil ?_
            refine K.thn_normal ?_
            refine K.KW.block ?_
            refine K.KW.loop (fun m_ F_ w_167 => ∃ (j : Nat), m_ = l.length - j ∧ K.Sl F_ [(0, .slice a xs.length cap), (1, .slice b l.length cap'), (11, .slice r_152 ((linesTo l l.length).length) cc_154), (12, .int .i64 (((linesTo l j).length : Nat) : Int)), (13, .int .i64 ((j : Nat) : Int))] ∧ j ≤ l.length ∧ K.Chg K.No w0 w_167 ∧ K.Own w_167 w0.heap.size 22 1 r_11 (((apply xs l).2).length) cc_13 (((apply xs l).2).flatMap cU64) ∧ K.Own w_167 w0.heap.size 97 3 r_21 l.length cc_23 ((l).flatMap chgC) ∧ K.Own w_167 w0.heap.size 22 1 r_32 (((apply xs l).2).length) cc_34 (((apply xs l).2).flatMap cU64) ∧ K.Own w_167 w0.heap.size 46 3 r_44 ((l.map back1).length) cc_46 (((l.map back1)).flatMap chgC) ∧ K.Own w_167 w0.heap.size 97 3 r_79 l.length cc_81 ((l).flatMap chgC) ∧ K.Own w_167 w0.heap.size 3 1 r_152 ((linesTo l l.length).length) cc_154 (((linesTo l l.length)).flatMap cI64)) ((fun (j : Nat) => l.length - j) 0) ?_ ?_
            · -- the loop begins
              exact ⟨0, rfl, ⟨by rfl, by rfl, by rfl, by rfl, by rfl, trivial⟩, (by omega), c_159, f_161, f_162, f_163, f_164, f_165, o_166⟩
            · -- a round
              intro m_174 F_175 w_167 hI
              obtain ⟨j, rfl, sl_176, p_178, c_177, f_179, f_180, f_181, f_182, f_183, f_184⟩ := hI
              rw [← K.Sl.puts sl_176]; clear sl_176
              have z_185 := c_177.size
              have hk0 : j < l.length → 0 ≤ (l.getD j d3).at_ := fun h => right_ge (by assumption) h
              have hk1 := hw j
              have hk2 : j - 1 < l.length → 0 ≤ (l.getD (j - 1) d3).at_ := fun h => right_ge (by assumption) h
              have hk3 := hw (j - 1)
              have hk4 := linesTo_le l j
              refine K.KW.seq ?_
              refine K.KW.seq ?_
              -- region 18 law.go:84
              refine K.KW.region ?_
              refine K.RW.q rfl rfl (K.QR.k (v := .int .i64 ((j : Nat) : Int)) (by kernel_rfl)) ?_
              refine K.RW.q rfl rfl (K.QR.k (v := .slice b l.length cap') (by kernel_rfl)) ?_
              refine K.RW.q rfl rfl (K.QR.len (P := Try.prog) rfl rfl Try.underlying42) ?_
              by_cases h_186 : (((j : Nat) : Int) : Int) < (((l.length : Nat) : Int) : Int)
              ·  -- yes
                refine K.RW.q rfl rfl (K.QR.nice (v := .bool (decide ((((j : Nat) : Int) : Int) < (((l.length : Nat) : Int) : Int)))) (by kernel_rfl) (congrArg Value.bool (decide_eq_true h_186))) ?_
                refine K.RW.nil ?_
                refine K.thn_normal ?_
                refine K.KW.ifT rfl ?_
                refine K.KW.skip ?_
                refine K.thn_normal ?_
                refine K.KW.seq ?_
                refine K.KW.block ?_
                refine K.KW.seq ?_
                -- region 20 law.go:85
                obtain ⟨b_187, of_188, rfl, _⟩ := hl.at_ (by omega)
                refine K.KW.drawn (fun w => K.Chg K.No w0 w) (by kernel_rfl) ?_
                intro w_189 e_190 hs_191
                have c_193 := c_177.no e_190
                have z_194 := c_193.size
                have f_195 := f_179.no e_190
                have f_196 := f_180.no e_190
                have f_197 := f_181.no e_190
                have f_198 := f_182.no e_190
                have f_199 := f_183.no e_190
                have f_200 := f_184.no e_190
                have hS_192 : (fun w => K.Chg K.No w0 w) w_189 := c_193
                refine K.DW.q 0 (by kernel_rfl) rfl rfl (by kernel_rfl) rfl (fun w hS => K.QR.k (v := .int .i64 ((j : Nat) : Int)) (by kernel_rfl)) hS_192 ?_
                by_cases h_201 : (((j : Nat) : Int) : Int) = (0 : Int)
                ·  -- yes
                  refine K.DW.q 1 (by kernel_rfl) rfl rfl (by kernel_rfl) rfl (fun w hS => K.QR.nice (v := .bool ((((j : Nat) : Int) : Int) == (0 : Int))) (by kernel_rfl) (congrArg Value.bool (beq_iff_eq.2 h_201))) hS_192 ?_
                  refine K.DW.q 2 (by kernel_rfl) rfl rfl (by kernel_rfl) rfl (fun w hS => K.QR.k (v := .bool true) (by kernel_rfl)) hS_192 ?_
                  refine K.DW.skip 3 (by kernel_rfl) rfl rfl (by kernel_rfl) (by kernel_rfl) hS_192 ?_
                  refine K.DW.skip 4 (by kernel_rfl) rfl rfl (by kernel_rfl) (by kernel_rfl) hS_192 ?_
                  refine K.DW.skip 5 (by kernel_rfl) rfl rfl (by kernel_rfl) (by kernel_rfl) hS_192 ?_
                  refine K.DW.skip 6 (by kernel_rfl) rfl rfl (by kernel_rfl) (by kernel_rfl) hS_192 ?_
                  refine K.DW.skip 7 (by kernel_rfl) rfl rfl (by kernel_rfl) (by kernel_rfl) hS_192 ?_
                  refine K.DW.skip 8 (by kernel_rfl) rfl rfl (by kernel_rfl) (by kernel_rfl) hS_192 ?_
                  refine K.DW.skip 9 (by kernel_rfl) rfl rfl (by kernel_rfl) (by kernel_rfl) hS_192 ?_
                  refine K.DW.skip 10 (by kernel_rfl) rfl rfl (by kernel_rfl) (by kernel_rfl) hS_192 ?_
                  refine K.DW.skip 11 (by kernel_rfl) rfl rfl (by kernel_rfl) (by kernel_rfl) hS_192 ?_
                  refine K.DW.skip 12 (by kernel_rfl) rfl rfl (by kernel_rfl) (by kernel_rfl) hS_192 ?_
                  refine K.DW.skip 13 (by kernel_rfl) rfl rfl (by kernel_rfl) (by kernel_rfl) hS_192 ?_
                  refine K.DW.skip 14 (by kernel_rfl) rfl rfl (by kernel_rfl) (by kernel_rfl) hS_192 ?_
                  refine K.DW.skip 15 (by kernel_rfl) rfl rfl (by kernel_rfl) (by kernel_rfl) hS_192 ?_
                  refine K.DW.skip 16 (by kernel_rfl) rfl rfl (by kernel_rfl) (by kernel_rfl) hS_192 ?_
                  refine K.DW.q 17 (by kernel_rfl) rfl rfl (by kernel_rfl) rfl (fun w hS => K.QR.k (v := .bool true) (by kernel_rfl)) hS_192 ?_
                  refine K.DW.done (by kernel_rfl) ?_
                  refine K.thn_normal ?_
                  refine K.KW.ifT rfl ?_
                  refine K.KW.seq ?_
                  refine K.KW.seq ?_
                  -- region 21 law.go:86
                  have hgt := (linesTo_at (l := l) (k := j) (N := l.length) (by omega) (by unfold newLn lnOf; omega)).2
                  obtain ⟨b_202, rfl, gb_204, gl_205⟩ := f_200.some_ (by omega)
                  refine K.KW.drawn (fun w => K.Chg K.No w0 w ∧ K.Own w w0.heap.size 3 1 (some ⟨b_202, 0, none⟩) ((linesTo l l.length).length) cc_154 (((linesTo l l.length)).flatMap cI64)) (by kernel_rfl) ?_
                  intro w_206 e_207 hs_208
                  have c_210 := c_193.no e_207
                  have z_211 := c_210.size
                  have f_212 := f_195.no e_207
                  have f_213 := f_196.no e_207
                  have f_214 := f_197.no e_207
                  have f_215 := f_198.no e_207
                  have f_216 := f_199.no e_207
                  have f_217 := f_200.no e_207
                  have hS_209 : (fun w => K.Chg K.No w0 w ∧ K.Own w w0.heap.size 3 1 (some ⟨b_202, 0, none⟩) ((linesTo l l.length).length) cc_154 (((linesTo l l.length)).flatMap cI64)) w_206 := ⟨c_210, f_217⟩
                  refine K.DW.q 0 (by kernel_rfl) rfl rfl (by kernel_rfl) rfl (fun w hS => K.QR.k (v := .int .i64 (((linesTo l j).length : Nat) : Int)) (by kernel_rfl)) hS_209 ?_
                  refine K.DW.q 1 (by kernel_rfl) rfl rfl (by kernel_rfl) rfl (fun w hS => K.QR.k (v := .slice (some ⟨b_202, 0, none⟩) ((linesTo l l.length).length) cc_154) (by kernel_rfl)) hS_209 ?_
                  refine K.DW.q 2 (by kernel_rfl) rfl rfl (by kernel_rfl) rfl (fun w hS => K.QR.len (P := Try.prog) rfl rfl Try.underlying56) hS_209 ?_
                  refine K.DW.q 3 (by kernel_rfl) rfl rfl (by kernel_rfl) rfl (fun w hS => K.QR.nice (v := .bool (decide (((((linesTo l j).length : Nat) : Int) : Int) ≥ ((((linesTo l l.length).length : Nat) : Int) : Int)))) (by kernel_rfl) (congrArg Value.bool (decide_eq_false (by have := (linesTo_at (l := l) (k := j) (N := l.length) (by omega) (by unfold newLn lnOf; omega)).2; omega)))) hS_209 ?_
                  refine K.DW.q 4 (by kernel_rfl) rfl rfl (by kernel_rfl) rfl (fun w hS => K.QR.k (v := .bool false) (by kernel_rfl)) hS_209 ?_
                  refine K.DW.q 5 (by kernel_rfl) rfl rfl (by kernel_rfl) (by kernel_rfl) (fun w hS => K.QR.k (v := .slice (some ⟨b_202, 0, none⟩) ((linesTo l l.length).length) cc_154) (by kernel_rfl)) hS_209 ?_
                  refine K.DW.q 6 (by kernel_rfl) rfl rfl (by kernel_rfl) (by kernel_rfl) (fun w hS => K.QR.k (v := .int .i64 (((linesTo l j).length : Nat) : Int)) (by kernel_rfl)) hS_209 ?_
                  refine K.DW.q 7 (by kernel_rfl) rfl rfl (by kernel_rfl) (by kernel_rfl) (fun w hS => K.QR.ix (0 + ((linesTo l j).length) * 1) 1 rfl rfl rfl Try.underlying56 (by kernel_rfl) (by omega) (by simp)) hS_209 ?_
                  refine K.DW.q 8 (by kernel_rfl) rfl rfl (by kernel_rfl) (by kernel_rfl) (fun w hS => K.QR.ld1 (v := .int .i64 ((linesTo l l.length).getD ((linesTo l j).length) 0)) rfl rfl (by kernel_rfl) ((K.Own.rowE 0 hS.2 rfl (fun _ => rfl)).ld ((linesTo l j).length) (by omega) 0 _ rfl)) hS_209 ?_
                  refine K.DW.q 9 (by kernel_rfl) rfl rfl (by kernel_rfl) (by kernel_rfl) (fun w hS => K.QR.k (v := .slice (some ⟨b_187, of_188, none⟩) l.length cap') (by kernel_rfl)) hS_209 ?_
                  refine K.DW.q 10 (by kernel_rfl) rfl rfl (by kernel_rfl) (by kernel_rfl) (fun w hS => K.QR.k (v := .int .i64 ((j : Nat) : Int)) (by kernel_rfl)) hS_209 ?_
                  refine K.DW.q 11 (by kernel_rfl) rfl rfl (by kernel_rfl) (by kernel_rfl) (fun w hS => K.QR.ix (of_188 + j * 3) 3 rfl rfl rfl Try.underlying42 (by kernel_rfl) (by omega) (by simp)) hS_209 ?_
                  refine K.DW.q 12 (by kernel_rfl) rfl rfl (by kernel_rfl) (by kernel_rfl) (fun w hS => K.QR.k (v := .pointer (some ⟨b_187, of_188 + j * 3, none⟩)) (by kernel_rfl)) hS_209 ?_
                  refine K.DW.q 13 (by kernel_rfl) rfl rfl (by kernel_rfl) (by kernel_rfl) (fun w hS => K.QR.ld1 (v := .int .i64 ((l.getD j d3).at_)) rfl rfl (by kernel_rfl) (hS.1.cell (hl.ld j (by omega) 0 _ rfl) id)) hS_209 ?_
                  refine K.DW.q 14 (by kernel_rfl) rfl rfl (by kernel_rfl) (by kernel_rfl) (fun w hS => K.QR.quoi64 ((l.getD j d3).at_ : Int) 8 (((l.getD j d3).at_ : Int) / 8) (by kernel_rfl) (by omega) (by omega)) hS_209 ?_
                  refine K.DW.q 15 (by kernel_rfl) rfl rfl (by kernel_rfl) (by kernel_rfl) (fun w hS => K.QR.nice (v := .bool (((linesTo l l.length).getD ((linesTo l j).length) 0 : Int) != (((l.getD j d3).at_ : Int) / 8 : Int))) (by kernel_rfl) (congrArg Value.bool (bne_eq_false_iff_eq.2 (by rw [(linesTo_at (l := l) (k := j) (N := l.length) (by omega) (by unfold newLn lnOf; omega)).1]; rfl)))) hS_209 ?_
                  refine K.DW.q 16 (by kernel_rfl) rfl rfl (by kernel_rfl) rfl (fun w hS => K.QR.k (v := .bool false) (by kernel_rfl)) hS_209 ?_
                  refine K.DW.done (by kernel_rfl) ?_
                  refine K.thn_normal ?_
                  refine K.KW.ifF rfl ?_
                  refine K.KW.skip ?_
                  refine K.thn_normal ?_
                  -- region 23 law.go:89
                  refine K.KW.region ?_
                  refine K.RW.q rfl rfl (K.QR.k (v := .int .i64 (((linesTo l j).length : Nat) : Int)) (by kernel_rfl)) ?_
                  refine K.RW.q rfl rfl (K.QR.n64 (((((linesTo l j).length : Nat) : Int) : Int) + (1 : Int)) (((linesTo l j).length + 1 : Nat) : Int) (by kernel_rfl) (by omega)) ?_
                  refine K.RW.q rfl rfl (K.QR.k (v := .int .i64 (((linesTo l j).length + 1 : Nat) : Int)) (by kernel_rfl)) ?_
                  refine K.RW.nil ?_
                  refine K.blk_normal ?_
                  refine K.thn_normal ?_
                  -- region 19 law.go:84
                  refine K.KW.region ?_
                  refine K.RW.q rfl rfl (K.QR.k (v := .int .i64 ((j : Nat) : Int)) (by kernel_rfl)) ?_
                  refine K.RW.q rfl rfl (K.QR.n64 ((((j : Nat) : Int) : Int) + (1 : Int)) ((j + 1 : Nat) : Int) (by kernel_rfl) (by omega)) ?_
                  refine K.RW.q rfl rfl (K.QR.k (v := .int .i64 ((j + 1 : Nat) : Int)) (by kernel_rfl)) ?_
                  refine K.RW.nil ?_
                  refine K.thn_normal ?_
                  refine ⟨_, ?_, j + 1, rfl, ⟨by rfl, by rfl, by rfl, by first | (show Value.int .i64 _ = _; rw [linesTo_new (by unfold newLn lnOf; omega)]; simp; done) | (show Value.int .i64 _ = _; rw [linesTo_old (by unfold newLn lnOf; omega)]), by rfl, trivial⟩, (by omega), c_210, f_212, f_213, f_214, f_215, f_216, f_217⟩
                  omega
                ·  -- no
                  refine K.DW.q 1 (by kernel_rfl) rfl rfl (by kernel_rfl) rfl (fun w hS => K.QR.nice (v := .bool ((((j : Nat) : Int) : Int) == (0 : Int))) (by kernel_rfl) (congrArg Value.bool (beq_eq_false_iff_ne.2 h_201))) hS_192 ?_
                  refine K.DW.q 2 (by kernel_rfl) rfl rfl (by kernel_rfl) rfl (fun w hS => K.QR.k (v := .bool false) (by kernel_rfl)) hS_192 ?_
                  refine K.DW.q 3 (by kernel_rfl) rfl rfl (by kernel_rfl) (by kernel_rfl) (fun w hS => K.QR.k (v := .slice (some ⟨b_187, of_188, none⟩) l.length cap') (by kernel_rfl)) hS_192 ?_
                  refine K.DW.q 4 (by kernel_rfl) rfl rfl (by kernel_rfl) (by kernel_rfl) (fun w hS => K.QR.k (v := .int .i64 ((j : Nat) : Int)) (by kernel_rfl)) hS_192 ?_
                  refine K.DW.q 5 (by kernel_rfl) rfl rfl (by kernel_rfl) (by kernel_rfl) (fun w hS => K.QR.ix (of_188 + j * 3) 3 rfl rfl rfl Try.underlying42 (by kernel_rfl) (by omega) (by simp)) hS_192 ?_
                  refine K.DW.q 6 (by kernel_rfl) rfl rfl (by kernel_rfl) (by kernel_rfl) (fun w hS => K.QR.k (v := .pointer (some ⟨b_187, of_188 + j * 3, none⟩)) (by kernel_rfl)) hS_192 ?_
                  refine K.DW.q 7 (by kernel_rfl) rfl rfl (by kernel_rfl) (by kernel_rfl) (fun w hS => K.QR.ld1 (v := .int .i64 ((l.getD j d3).at_)) rfl rfl (by kernel_rfl) (hS.cell (hl.ld j (by omega) 0 _ rfl) id)) hS_192 ?_
                  refine K.DW.q 8 (by kernel_rfl) rfl rfl (by kernel_rfl) (by kernel_rfl) (fun w hS => K.QR.quoi64 ((l.getD j d3).at_ : Int) 8 (((l.getD j d3).at_ : Int) / 8) (by kernel_rfl) (by omega) (by omega)) hS_192 ?_
                  refine K.DW.q 9 (by kernel_rfl) rfl rfl (by kernel_rfl) (by kernel_rfl) (fun w hS => K.QR.k (v := .slice (some ⟨b_187, of_188, none⟩) l.length cap') (by kernel_rfl)) hS_192 ?_
                  refine K.DW.q 10 (by kernel_rfl) rfl rfl (by kernel_rfl) (by kernel_rfl) (fun w hS => K.QR.k (v := .int .i64 ((j : Nat) : Int)) (by kernel_rfl)) hS_192 ?_
                  refine K.DW.q 11 (by kernel_rfl) rfl rfl (by kernel_rfl) (by kernel_rfl) (fun w hS => K.QR.n64 ((((j : Nat) : Int) : Int) - (1 : Int)) ((j - 1 : Nat) : Int) (by kernel_rfl) (by omega)) hS_192 ?_
                  refine K.DW.q 12 (by kernel_rfl) rfl rfl (by kernel_rfl) (by kernel_rfl) (fun w hS => K.QR.ix (of_188 + (j - 1) * 3) 3 rfl rfl rfl Try.underlying42 (by kernel_rfl) (by omega) (by simp)) hS_192 ?_
                  refine K.DW.q 13 (by kernel_rfl) rfl rfl (by kernel_rfl) (by kernel_rfl) (fun w hS => K.QR.k (v := .pointer (some ⟨b_187, of_188 + (j - 1) * 3, none⟩)) (by kernel_rfl)) hS_192 ?_
                  refine K.DW.q 14 (by kernel_rfl) rfl rfl (by kernel_rfl) (by kernel_rfl) (fun w hS => K.QR.ld1 (v := .int .i64 ((l.getD (j - 1) d3).at_)) rfl rfl (by kernel_rfl) (hS.cell (hl.ld (j - 1) (by omega) 0 _ rfl) id)) hS_192 ?_
                  refine K.DW.q 15 (by kernel_rfl) rfl rfl (by kernel_rfl) (by kernel_rfl) (fun w hS => K.QR.quoi64 ((l.getD (j - 1) d3).at_ : Int) 8 (((l.getD (j - 1) d3).at_ : Int) / 8) (by kernel_rfl) (by omega) (by omega)) hS_192 ?_
                  by_cases h_218 : (((l.getD j d3).at_ : Int) / 8 : Int) = (((l.getD (j - 1) d3).at_ : Int) / 8 : Int)
                  ·  -- yes
                    refine K.DW.q 16 (by kernel_rfl) rfl rfl (by kernel_rfl) (by kernel_rfl) (fun w hS => K.QR.nice (v := .bool ((((l.getD j d3).at_ : Int) / 8 : Int) != (((l.getD (j - 1) d3).at_ : Int) / 8 : Int))) (by kernel_rfl) (congrArg Value.bool (bne_eq_false_iff_eq.2 h_218))) hS_192 ?_
                    refine K.DW.q 17 (by kernel_rfl) rfl rfl (by kernel_rfl) rfl (fun w hS => K.QR.k (v := .bool false) (by kernel_rfl)) hS_192 ?_
                    refine K.DW.done (by kernel_rfl) ?_
                    refine K.thn_normal ?_
                    refine K.KW.ifF rfl ?_
                    refine K.KW.skip ?_
                    refine K.blk_normal ?_
                    refine K.thn_normal ?_
                    -- region 19 law.go:84
                    refine K.KW.region ?_
                    refine K.RW.q rfl rfl (K.QR.k (v := .int .i64 ((j : Nat) : Int)) (by kernel_rfl)) ?_
                    refine K.RW.q rfl rfl (K.QR.n64 ((((j : Nat) : Int) : Int) + (1 : Int)) ((j + 1 : Nat) : Int) (by kernel_rfl) (by omega)) ?_
                    refine K.RW.q rfl rfl (K.QR.k (v := .int .i64 ((j + 1 : Nat) : Int)) (by kernel_rfl)) ?_
                    refine K.RW.nil ?_
                    refine K.thn_normal ?_
                    refine ⟨_, ?_, j + 1, rfl, ⟨by rfl, by rfl, by rfl, by first | (show Value.int .i64 _ = _; rw [linesTo_new (by unfold newLn lnOf; omega)]; simp; done) | (show Value.int .i64 _ = _; rw [linesTo_old (by unfold newLn lnOf; omega)]), by rfl, trivial⟩, (by omega), c_193, f_195, f_196, f_197, f_198, f_199, f_200⟩
                    omega
                  ·  -- no
                    refine K.DW.q 16 (by kernel_rfl) rfl rfl (by kernel_rfl) (by kernel_rfl) (fun w hS => K.QR.nice (v := .bool ((((l.getD j d3).at_ : Int) / 8 : Int) != (((l.getD (j - 1) d3).at_ : Int) / 8 : Int))) (by kernel_rfl) (congrArg Value.bool (bne_iff_ne.2 h_218))) hS_192 ?_
                    refine K.DW.q 17 (by kernel_rfl) rfl rfl (by kernel_rfl) rfl (fun w hS => K.QR.k (v := .bool true) (by kernel_rfl)) hS_192 ?_
                    refine K.DW.done (by kernel_rfl) ?_
                    refine K.thn_normal ?_
                    refine K.KW.ifT rfl ?_
                    refine K.KW.seq ?_
                    refine K.KW.seq ?_
                    -- region 21 law.go:86
                    have hgt := (linesTo_at (l := l) (k := j) (N := l.length) (by omega) (by unfold newLn lnOf; omega)).2
                    obtain ⟨b_219, rfl, gb_221, gl_222⟩ := f_200.some_ (by omega)
                    refine K.KW.drawn (fun w => K.Chg K.No w0 w ∧ K.Own w w0.heap.size 3 1 (some ⟨b_219, 0, none⟩) ((linesTo l l.length).length) cc_154 (((linesTo l l.length)).flatMap cI64)) (by kernel_rfl) ?_
                    intro w_223 e_224 hs_225
                    have c_227 := c_193.no e_224
                    have z_228 := c_227.size
                    have f_229 := f_195.no e_224
                    have f_230 := f_196.no e_224
                    have f_231 := f_197.no e_224
                    have f_232 := f_198.no e_224
                    have f_233 := f_199.no e_224
                    have f_234 := f_200.no e_224
                    have hS_226 : (fun w => K.Chg K.No w0 w ∧ K.Own w w0.heap.size 3 1 (some ⟨b_219, 0, none⟩) ((linesTo l l.length).length) cc_154 (((linesTo l l.length)).flatMap cI64)) w_223 := ⟨c_227, f_234⟩
                    refine K.DW.q 0 (by kernel_rfl) rfl rfl (by kernel_rfl) rfl (fun w hS => K.QR.k (v := .int .i64 (((linesTo l j).length : Nat) : Int)) (by kernel_rfl)) hS_226 ?_
                    refine K.DW.q 1 (by kernel_rfl) rfl rfl (by kernel_rfl) rfl (fun w hS => K.QR.k (v := .slice (some ⟨b_219, 0, none⟩) ((linesTo l l.length).length) cc_154) (by kernel_rfl)) hS_226 ?_
                    refine K.DW.q 2 (by kernel_rfl) rfl rfl (by kernel_rfl) rfl (fun w hS => K.QR.len (P := Try.prog) rfl rfl Try.underlying56) hS_226 ?_
                    refine K.DW.q 3 (by kernel_rfl) rfl rfl (by kernel_rfl) rfl (fun w hS => K.QR.nice (v := .bool (decide (((((linesTo l j).length : Nat) : Int) : Int) ≥ ((((linesTo l l.length).length : Nat) : Int) : Int)))) (by kernel_rfl) (congrArg Value.bool (decide_eq_false (by have := (linesTo_at (l := l) (k := j) (N := l.length) (by omega) (by unfold newLn lnOf; omega)).2; omega)))) hS_226 ?_
                    refine K.DW.q 4 (by kernel_rfl) rfl rfl (by kernel_rfl) rfl (fun w hS => K.QR.k (v := .bool false) (by kernel_rfl)) hS_226 ?_
                    refine K.DW.q 5 (by kernel_rfl) rfl rfl (by kernel_rfl) (by kernel_rfl) (fun w hS => K.QR.k (v := .slice (some ⟨b_219, 0, none⟩) ((linesTo l l.length).length) cc_154) (by kernel_rfl)) hS_226 ?_
                    refine K.DW.q 6 (by kernel_rfl) rfl rfl (by kernel_rfl) (by kernel_rfl) (fun w hS => K.QR.k (v := .int .i64 (((linesTo l j).length : Nat) : Int)) (by kernel_rfl)) hS_226 ?_
                    refine K.DW.q 7 (by kernel_rfl) rfl rfl (by kernel_rfl) (by kernel_rfl) (fun w hS => K.QR.ix (0 + ((linesTo l j).length) * 1) 1 rfl rfl rfl Try.underlying56 (by kernel_rfl) (by omega) (by simp)) hS_226 ?_
                    refine K.DW.q 8 (by kernel_rfl) rfl rfl (by kernel_rfl) (by kernel_rfl) (fun w hS => K.QR.ld1 (v := .int .i64 ((linesTo l l.length).getD ((linesTo l j).length) 0)) rfl rfl (by kernel_rfl) ((K.Own.rowE 0 hS.2 rfl (fun _ => rfl)).ld ((linesTo l j).length) (by omega) 0 _ rfl)) hS_226 ?_
                    refine K.DW.q 9 (by kernel_rfl) rfl rfl (by kernel_rfl) (by kernel_rfl) (fun w hS => K.QR.k (v := .slice (some ⟨b_187, of_188, none⟩) l.length cap') (by kernel_rfl)) hS_226 ?_
                    refine K.DW.q 10 (by kernel_rfl) rfl rfl (by kernel_rfl) (by kernel_rfl) (fun w hS => K.QR.k (v := .int .i64 ((j : Nat) : Int)) (by kernel_rfl)) hS_226 ?_
                    refine K.DW.q 11 (by kernel_rfl) rfl rfl (by kernel_rfl) (by kernel_rfl) (fun w hS => K.QR.ix (of_188 + j * 3) 3 rfl rfl rfl Try.underlying42 (by kernel_rfl) (by omega) (by simp)) hS_226 ?_
                    refine K.DW.q 12 (by kernel_rfl) rfl rfl (by kernel_rfl) (by kernel_rfl) (fun w hS => K.QR.k (v := .pointer (some ⟨b_187, of_188 + j * 3, none⟩)) (by kernel_rfl)) hS_226 ?_
                    refine K.DW.q 13 (by kernel_rfl) rfl rfl (by kernel_rfl) (by kernel_rfl) (fun w hS => K.QR.ld1 (v := .int .i64 ((l.getD j d3).at_)) rfl rfl (by kernel_rfl) (hS.1.cell (hl.ld j (by omega) 0 _ rfl) id)) hS_226 ?_
                    refine K.DW.q 14 (by kernel_rfl) rfl rfl (by kernel_rfl) (by kernel_rfl) (fun w hS => K.QR.quoi64 ((l.getD j d3).at_ : Int) 8 (((l.getD j d3).at_ : Int) / 8) (by kernel_rfl) (by omega) (by omega)) hS_226 ?_
                    refine K.DW.q 15 (by kernel_rfl) rfl rfl (by kernel_rfl) (by kernel_rfl) (fun w hS => K.QR.nice (v := .bool (((linesTo l l.length).getD ((linesTo l j).length) 0 : Int) != (((l.getD j d3).at_ : Int) / 8 : Int))) (by kernel_rfl) (congrArg Value.bool (bne_eq_false_iff_eq.2 (by rw [(linesTo_at (l := l) (k := j) (N := l.length) (by omega) (by unfold newLn lnOf; omega)).1]; rfl)))) hS_226 ?_
                    refine K.DW.q 16 (by kernel_rfl) rfl rfl (by kernel_rfl) rfl (fun w hS => K.QR.k (v := .bool false) (by kernel_rfl)) hS_226 ?_
                    refine K.DW.done (by kernel_rfl) ?_
                    refine K.thn_normal ?_
                    refine K.KW.ifF rfl ?_
                    refine K.KW.skip ?_
                    refine K.thn_normal ?_
                    -- region 23 law.go:89
                    refine K.KW.region ?_
                    refine K.RW.q rfl rfl (K.QR.k (v := .int .i64 (((linesTo l j).length : Nat) : Int)) (by kernel_rfl)) ?_
                    refine K.RW.q rfl rfl (K.QR.n64 (((((linesTo l j).length : Nat) : Int) : Int) + (1 : Int)) (((linesTo l j).length + 1 : Nat) : Int) (by kernel_rfl) (by omega)) ?_
                    refine K.RW.q rfl rfl (K.QR.k (v := .int .i64 (((linesTo l j).length + 1 : Nat) : Int)) (by kernel_rfl)) ?_
                    refine K.RW.nil ?_
                    refine K.blk_normal ?_
                    refine K.thn_normal ?_
                    -- region 19 law.go:84
                    refine K.KW.region ?_
                    refine K.RW.q rfl rfl (K.QR.k (v := .int .i64 ((j : Nat) : Int)) (by kernel_rfl)) ?_
                    refine K.RW.q rfl rfl (K.QR.n64 ((((j : Nat) : Int) : Int) + (1 : Int)) ((j + 1 : Nat) : Int) (by kernel_rfl) (by omega)) ?_
                    refine K.RW.q rfl rfl (K.QR.k (v := .int .i64 ((j + 1 : Nat) : Int)) (by kernel_rfl)) ?_
                    refine K.RW.nil ?_
                    refine K.thn_normal ?_
                    refine ⟨_, ?_, j + 1, rfl, ⟨by rfl, by rfl, by rfl, by first | (show Value.int .i64 _ = _; rw [linesTo_new (by unfold newLn lnOf; omega)]; simp; done) | (show Value.int .i64 _ = _; rw [linesTo_old (by unfold newLn lnOf; omega)]), by rfl, trivial⟩, (by omega), c_227, f_229, f_230, f_231, f_232, f_233, f_234⟩
                    omega
              ·  -- no
                refine K.RW.q rfl rfl (K.QR.nice (v := .bool (decide ((((j : Nat) : Int) : Int) < (((l.length : Nat) : Int) : Int)))) (by kernel_rfl) (congrArg Value.bool (decide_eq_false h_186))) ?_
                refine K.RW.nil ?_
                refine K.thn_normal ?_
                refine K.KW.ifF rfl ?_
                refine K.KW.exit ?_
                refine K.thn_exit ?_
                refine K.thn_exit ?_
                refine K.blk_hit ?_
                refine K.thn_normal ?_
                refine K.KW.seq ?_
                -- region 24 law.go:92
                refine K.KW.region ?_
                refine K.RW.l rfl (K.OW.call rfl [] rfl rfl (by kernel_rfl) (awake34_ok _) ?_) 
                rintro _ w_236 ⟨rfl, c_235⟩
                have c_237 := c_177.no c_235
                have z_238 := c_237.size
                have f_239 := f_179.no c_235
                have f_240 := f_180.no c_235
                have f_241 := f_181.no c_235
                have f_242 := f_182.no c_235
                have f_243 := f_183.no c_235
                have f_244 := f_184.no c_235
                refine K.RW.q rfl rfl (K.QR.k (v := .bool true) (by kernel_rfl)) ?_
                refine K.RW.q rfl (by kernel_rfl) (K.QR.k (v := .int .i64 (((linesTo l j).length : Nat) : Int)) (by kernel_rfl)) ?_
                refine K.RW.q rfl (by kernel_rfl) (K.QR.k (v := .slice r_152 ((linesTo l l.length).length) cc_154) (by kernel_rfl)) ?_
                refine K.RW.q rfl (by kernel_rfl) (K.QR.len (P := Try.prog) rfl rfl Try.underlying56) ?_
                refine K.RW.q rfl (by kernel_rfl) (K.QR.nice (v := .bool (((((linesTo l j).length : Nat) : Int) : Int) == ((((linesTo l l.length).length : Nat) : Int) : Int))) (by kernel_rfl) (congrArg Value.bool (beq_iff_eq.2 (by rw [show j = l.length by omega])))) ?_
                refine K.RW.q rfl rfl (K.QR.k (v := .bool true) (by kernel_rfl)) ?_
                refine K.RW.q rfl rfl (K.QR.k (v := .bool true) (by kernel_rfl)) ?_
                refine K.RW.nil ?_
                refine K.thn_normal ?_
                refine K.KW.ret ?_
                refine ⟨.inr rfl, (.bool true), K.res1 rfl rfl, ?_⟩
                exact ⟨rfl, c_237⟩
      ·  -- False
        rw [hb_78] at hv_70; subst hv_70
        refine K.RW.q rfl (by kernel_rfl) (K.QR.k (v := .slice b l.length cap') (by kernel_rfl)) ?_
        refine K.RW.l (by kernel_rfl) (K.OW.call rfl [.slice b l.length cap'] rfl rfl (by kernel_rfl) (as_ok _ _ l _ (by first | omega | (simp; omega) | (simp; done)) (hl.no c_72)) ?_) 
        rintro _ w_251 ⟨r_245, m_246, cc_247, rfl, c_248, o_249, rfl⟩
        have c_252 := c_72.no c_248
        have z_253 := c_252.size
        have f_254 := f_74.no c_248
        have f_255 := f_75.no c_248
        have f_256 := f_76.no c_248
        have f_257 := f_77.no c_248
        have o_258 := K.Own.mono (base' := w0.heap.size) o_249 (by omega)
        refine K.RW.l (by kernel_rfl) (K.OW.call rfl [.slice r_245 l.length cc_247] rfl rfl (by kernel_rfl) (rright_ok _ _ l _ (by first | omega | (simp; omega) | (simp; done)) (K.Own.rowE d3 o_258 rfl (fun _ => rfl))) ?_) 
        rintro v_262 w_260 ⟨hv_261, c_259⟩
        have c_263 := c_252.no c_259
        have z_264 := c_263.size
        have f_265 := f_254.no c_259
        have f_266 := f_255.no c_259
        have f_267 := f_256.no c_259
        have f_268 := f_257.no c_259
        have f_269 := o_258.no c_259
        have hb_270 : right l = false := hb_78
        rw [hb_270] at hv_261; subst hv_261
        refine K.RW.q rfl (by kernel_rfl) (K.QR.k (v := .bool false) (by kernel_rfl)) ?_
        refine K.RW.q rfl rfl (K.QR.k (v := .bool false) (by kernel_rfl)) ?_
        refine K.RW.q rfl rfl (K.QR.k (v := .bool false) (by kernel_rfl)) ?_
        refine K.RW.q rfl (by kernel_rfl) (K.QR.k (v := .slice r_44 ((l.map back1).length) cc_46) (by kernel_rfl)) ?_
        refine K.RW.q rfl (by kernel_rfl) (K.QR.len (P := Try.prog) rfl rfl Try.underlying42) ?_
        refine K.RW.q rfl (by kernel_rfl) (K.QR.k (v := .slice b l.length cap') (by kernel_rfl)) ?_
        refine K.RW.q rfl (by kernel_rfl) (K.QR.len (P := Try.prog) rfl rfl Try.underlying42) ?_
        refine K.RW.q rfl (by kernel_rfl) (K.QR.nice (v := .bool (((((l.map back1).length : Nat) : Int) : Int) != (((l.length : Nat) : Int) : Int))) (by kernel_rfl) (congrArg Value.bool (bne_eq_false_iff_eq.2 (by simp)))) ?_
        refine K.RW.q rfl rfl (K.QR.k (v := .bool false) (by kernel_rfl)) ?_
        refine K.RW.nil ?_
        refine K.thn_normal ?_
        refine K.KW.ifF rfl ?_
        refine K.KW.skip ?_
        refine K.thn_normal ?_
        refine K.KW.seq ?_
        refine K.KW.seq ?_
        -- region 8 law.go:74
        refine K.KW.region ?_
        refine K.RW.q rfl rfl (K.QR.k (v := .int .i64 0) (by kernel_rfl)) ?_
        refine K.RW.nil ?_
        refine K.thn_normal ?_
        refine K.KW.block ?_
        refine K.KW.loop (fun m_ F_ w_271 => ∃ (i : Nat), m_ = l.length - i ∧ K.Sl F_ [(0, .slice a xs.length cap), (1, .slice b l.length cap'), (9, .slice r_44 ((l.map back1).length) cc_46), (10, .int .i64 ((i : Nat) : Int))] ∧ i ≤ l.length ∧ K.Chg K.No w0 w_271 ∧ K.Own w_271 w0.heap.size 22 1 r_11 (((apply xs l).2).length) cc_13 (((apply xs l).2).flatMap cU64) ∧ K.Own w_271 w0.heap.size 97 3 r_21 l.length cc_23 ((l).flatMap chgC) ∧ K.Own w_271 w0.heap.size 22 1 r_32 (((apply xs l).2).length) cc_34 (((apply xs l).2).flatMap cU64) ∧ K.Own w_271 w0.heap.size 46 3 r_44 ((l.map back1).length) cc_46 (((l.map back1)).flatMap chgC) ∧ K.Own w_271 w0.heap.size 97 3 r_245 l.length cc_247 ((l).flatMap chgC)) ((fun (i : Nat) => l.length - i) 0) ?_ ?_
        · -- the loop begins
          exact ⟨0, rfl, ⟨by rfl, by rfl, by rfl, by rfl, trivial⟩, (by omega), c_263, f_265, f_266, f_267, f_268, f_269⟩
        · -- a round
          intro m_277 F_278 w_271 hI
          obtain ⟨i, rfl, sl_279, p_281, c_280, f_282, f_283, f_284, f_285, f_286⟩ := hI
          rw [← K.Sl.puts sl_279]; clear sl_279
          have z_287 := c_280.size
          have hlm : (l.map back1).length = l.length := by simp
          refine K.KW.seq ?_
          refine K.KW.seq ?_
          -- region 9 law.go:74
          refine K.KW.region ?_
          refine K.RW.q rfl rfl (K.QR.k (v := .int .i64 ((i : Nat) : Int)) (by kernel_rfl)) ?_
          refine K.RW.q rfl rfl (K.QR.k (v := .slice b l.length cap') (by kernel_rfl)) ?_
          refine K.RW.q rfl rfl (K.QR.len (P := Try.prog) rfl rfl Try.underlying42) ?_
          by_cases h_288 : (((i : Nat) : Int) : Int) < (((l.length : Nat) : Int) : Int)
          ·  -- yes
            refine K.RW.q rfl rfl (K.QR.nice (v := .bool (decide ((((i : Nat) : Int) : Int) < (((l.length : Nat) : Int) : Int)))) (by kernel_rfl) (congrArg Value.bool (decide_eq_true h_288))) ?_
            refine K.RW.nil ?_
            refine K.thn_normal ?_
            refine K.KW.ifT rfl ?_
            refine K.KW.skip ?_
            refine K.thn_normal ?_
            refine K.KW.seq ?_
            refine K.KW.block ?_
            refine K.KW.seq ?_
            -- region 11 law.go:75
            obtain ⟨b_289, rfl, gb_291, gl_292⟩ := f_285.some_ (by omega)
            obtain ⟨b_293, of_294, rfl, _⟩ := hl.at_ (by omega)
            refine K.KW.drawn (fun w => K.Chg K.No w0 w ∧ K.Own w w0.heap.size 46 3 (some ⟨b_289, 0, none⟩) ((l.map back1).length) cc_46 (((l.map back1)).flatMap chgC)) (by kernel_rfl) ?_
            intro w_295 e_296 hs_297
            have c_299 := c_280.no e_296
            have z_300 := c_299.size
            have f_301 := f_282.no e_296
            have f_302 := f_283.no e_296
            have f_303 := f_284.no e_296
            have f_304 := f_285.no e_296
            have f_305 := f_286.no e_296
            have hS_298 : (fun w => K.Chg K.No w0 w ∧ K.Own w w0.heap.size 46 3 (some ⟨b_289, 0, none⟩) ((l.map back1).length) cc_46 (((l.map back1)).flatMap chgC)) w_295 := ⟨c_299, f_304⟩
            refine K.DW.q 0 (by kernel_rfl) rfl rfl (by kernel_rfl) rfl (fun w hS => K.QR.k (v := .slice (some ⟨b_289, 0, none⟩) ((l.map back1).length) cc_46) (by kernel_rfl)) hS_298 ?_
            refine K.DW.q 1 (by kernel_rfl) rfl rfl (by kernel_rfl) rfl (fun w hS => K.QR.k (v := .int .i64 ((i : Nat) : Int)) (by kernel_rfl)) hS_298 ?_
            refine K.DW.q 2 (by kernel_rfl) rfl rfl (by kernel_rfl) rfl (fun w hS => K.QR.ix (0 + i * 3) 3 rfl rfl rfl Try.underlying42 (by kernel_rfl) (by omega) (by simp)) hS_298 ?_
            refine K.DW.q 3 (by kernel_rfl) rfl rfl (by kernel_rfl) rfl (fun w hS => K.QR.ldN [.int .i64 (((l.map back1).getD i d3).at_), .int .u64 (((l.map back1).getD i d3).old), .int .u64 (((l.map back1).getD i d3).new)] rfl rfl (by kernel_rfl) (by kernel_rfl) (K.cells (K.cl ((K.Own.rowE d3 hS.2 rfl (fun _ => rfl)).ld i (by omega) 0 _ rfl) (K.cl ((K.Own.rowE d3 hS.2 rfl (fun _ => rfl)).ld i (by omega) 1 _ rfl) (K.cl ((K.Own.rowE d3 hS.2 rfl (fun _ => rfl)).ld i (by omega) 2 _ rfl) K.cl0))))) hS_298 ?_
            refine K.DW.q 4 (by kernel_rfl) rfl rfl (by kernel_rfl) rfl (fun w hS => K.QR.k (v := .slice (some ⟨b_293, of_294, none⟩) l.length cap') (by kernel_rfl)) hS_298 ?_
            refine K.DW.q 5 (by kernel_rfl) rfl rfl (by kernel_rfl) rfl (fun w hS => K.QR.k (v := .int .i64 ((i : Nat) : Int)) (by kernel_rfl)) hS_298 ?_
            refine K.DW.q 6 (by kernel_rfl) rfl rfl (by kernel_rfl) rfl (fun w hS => K.QR.ix (of_294 + i * 3) 3 rfl rfl rfl Try.underlying42 (by kernel_rfl) (by omega) (by simp)) hS_298 ?_
            refine K.DW.q 7 (by kernel_rfl) rfl rfl (by kernel_rfl) rfl (fun w hS => K.QR.k (v := .pointer (some ⟨b_293, of_294 + i * 3, none⟩)) (by kernel_rfl)) hS_298 ?_
            refine K.DW.q 8 (by kernel_rfl) rfl rfl (by kernel_rfl) rfl (fun w hS => K.QR.ld1 (v := .int .i64 ((l.getD i d3).at_)) rfl rfl (by kernel_rfl) (hS.1.cell (hl.ld i (by omega) 0 _ rfl) id)) hS_298 ?_
            refine K.DW.q 9 (by kernel_rfl) rfl rfl (by kernel_rfl) rfl (fun w hS => K.QR.k (v := .slice (some ⟨b_293, of_294, none⟩) l.length cap') (by kernel_rfl)) hS_298 ?_
            refine K.DW.q 10 (by kernel_rfl) rfl rfl (by kernel_rfl) rfl (fun w hS => K.QR.k (v := .int .i64 ((i : Nat) : Int)) (by kernel_rfl)) hS_298 ?_
            refine K.DW.q 11 (by kernel_rfl) rfl rfl (by kernel_rfl) rfl (fun w hS => K.QR.ix (of_294 + i * 3) 3 rfl rfl rfl Try.underlying42 (by kernel_rfl) (by omega) (by simp)) hS_298 ?_
            refine K.DW.q 12 (by kernel_rfl) rfl rfl (by kernel_rfl) rfl (fun w hS => K.QR.k (v := .pointer (some ⟨b_293, of_294 + i * 3 + 2, none⟩)) (by kernel_rfl)) hS_298 ?_
            refine K.DW.q 13 (by kernel_rfl) rfl rfl (by kernel_rfl) rfl (fun w hS => K.QR.ld1 (v := .int .u64 ((l.getD i d3).new)) rfl rfl (by kernel_rfl) (hS.1.cell (hl.ld i (by omega) 2 _ rfl) id)) hS_298 ?_
            refine K.DW.q 14 (by kernel_rfl) rfl rfl (by kernel_rfl) rfl (fun w hS => K.QR.k (v := .slice (some ⟨b_293, of_294, none⟩) l.length cap') (by kernel_rfl)) hS_298 ?_
            refine K.DW.q 15 (by kernel_rfl) rfl rfl (by kernel_rfl) rfl (fun w hS => K.QR.k (v := .int .i64 ((i : Nat) : Int)) (by kernel_rfl)) hS_298 ?_
            refine K.DW.q 16 (by kernel_rfl) rfl rfl (by kernel_rfl) rfl (fun w hS => K.QR.ix (of_294 + i * 3) 3 rfl rfl rfl Try.underlying42 (by kernel_rfl) (by omega) (by simp)) hS_298 ?_
            refine K.DW.q 17 (by kernel_rfl) rfl rfl (by kernel_rfl) rfl (fun w hS => K.QR.k (v := .pointer (some ⟨b_293, of_294 + i * 3 + 1, none⟩)) (by kernel_rfl)) hS_298 ?_
            refine K.DW.q 18 (by kernel_rfl) rfl rfl (by kernel_rfl) rfl (fun w hS => K.QR.ld1 (v := .int .u64 ((l.getD i d3).old)) rfl rfl (by kernel_rfl) (hS.1.cell (hl.ld i (by omega) 1 _ rfl) id)) hS_298 ?_
            refine K.DW.q 19 (by kernel_rfl) rfl rfl (by kernel_rfl) rfl (fun w hS => K.QR.bd [(0, .int .i64 ((l.getD i d3).at_)), (1, .int .u64 ((l.getD i d3).new)), (2, .int .u64 ((l.getD i d3).old))] [.int .i64 ((l.getD i d3).at_), .int .u64 ((l.getD i d3).new), .int .u64 ((l.getD i d3).old)] rfl rfl (by kernel_rfl)) hS_298 ?_
            refine K.DW.q 20 (by kernel_rfl) rfl rfl (by kernel_rfl) rfl (fun w hS => K.QR.neS (by kernel_rfl) rfl rfl rfl (eqC_t (by rw [map_back_getD (by omega)]; exact ⟨rfl, rfl, rfl⟩))) hS_298 ?_
            refine K.DW.done (by kernel_rfl) ?_
            refine K.thn_normal ?_
            refine K.KW.ifF rfl ?_
            refine K.KW.skip ?_
            refine K.blk_normal ?_
            refine K.thn_normal ?_
            -- region 10 law.go:74
            refine K.KW.region ?_
            refine K.RW.q rfl rfl (K.QR.k (v := .int .i64 ((i : Nat) : Int)) (by kernel_rfl)) ?_
            refine K.RW.q rfl rfl (K.QR.n64 ((((i : Nat) : Int) : Int) + (1 : Int)) ((i + 1 : Nat) : Int) (by kernel_rfl) (by omega)) ?_
            refine K.RW.q rfl rfl (K.QR.k (v := .int .i64 ((i + 1 : Nat) : Int)) (by kernel_rfl)) ?_
            refine K.RW.nil ?_
            refine K.thn_normal ?_
            refine ⟨_, ?_, i + 1, rfl, ⟨by rfl, by rfl, by rfl, by rfl, trivial⟩, (by omega), c_299, f_301, f_302, f_303, f_304, f_305⟩
            omega
          ·  -- no
            refine K.RW.q rfl rfl (K.QR.nice (v := .bool (decide ((((i : Nat) : Int) : Int) < (((l.length : Nat) : Int) : Int)))) (by kernel_rfl) (congrArg Value.bool (decide_eq_false h_288))) ?_
            refine K.RW.nil ?_
            refine K.thn_normal ?_
            refine K.KW.ifF rfl ?_
            refine K.KW.exit ?_
            refine K.thn_exit ?_
            refine K.thn_exit ?_
            refine K.blk_hit ?_
            refine K.thn_normal ?_
            refine K.KW.seq ?_
            refine K.KW.seq ?_
            -- region 13 law.go:79
            refine K.KW.region ?_
            refine K.RW.q rfl rfl (K.QR.k (v := .slice b l.length cap') (by kernel_rfl)) ?_
            refine K.RW.l rfl (K.OW.call rfl [.slice b l.length cap'] rfl rfl (by kernel_rfl) (right_ok _ _ l _ (by first | omega | (simp; omega) | simp) (hl.no c_280)) ?_) 
            rintro v_309 w_307 ⟨hv_308, c_306⟩
            have c_310 := c_280.no c_306
            have z_311 := c_310.size
            have f_312 := f_282.no c_306
            have f_313 := f_283.no c_306
            have f_314 := f_284.no c_306
            have f_315 := f_285.no c_306
            have f_316 := f_286.no c_306
            have hb_317 : right l = false := hb_78
            rw [hb_317] at hv_308; subst hv_308
            refine K.RW.q rfl rfl (K.QR.k (v := .bool true) (by kernel_rfl)) ?_
            refine K.RW.nil ?_
            refine K.thn_normal ?_
            refine K.KW.ifT rfl ?_
            refine K.KW.seq ?_
            -- region 14 law.go:80
            refine K.KW.region ?_
            refine K.RW.l rfl (K.OW.call rfl [] rfl rfl (by kernel_rfl) (awake34_ok _) ?_) 
            rintro _ w_319 ⟨rfl, c_318⟩
            have c_320 := c_310.no c_318
            have z_321 := c_320.size
            have f_322 := f_312.no c_318
            have f_323 := f_313.no c_318
            have f_324 := f_314.no c_318
            have f_325 := f_315.no c_318
            have f_326 := f_316.no c_318
            refine K.RW.q rfl rfl (K.QR.k (v := .bool true) (by kernel_rfl)) ?_
            refine K.RW.nil ?_
            refine K.thn_normal ?_
            refine K.KW.ret ?_
            refine K.thn_ret ?_
            refine ⟨.inr rfl, (.bool true), K.res1 rfl rfl, ?_⟩
            exact ⟨rfl, c_320⟩

end Go.Proofs.Ytcmlompigmhddaa
