import Derived.Test.YtnehocjmgnhhhaaDoorFrp4
/- Reports: Read. -/
namespace Go.Proofs.YtnehocjmgnhhhaaDoor
open Go.RowKit
set_option linter.unusedVariables false
attribute [local irreducible] K.KW K.RW K.DW K.OW K.QR K.KC
theorem list10 {α : Type} {L : List α} (h : L.length = 10) : ∃ x0 x1 x2 x3 x4 x5 x6 x7 x8 x9, L = [x0, x1, x2, x3, x4, x5, x6, x7, x8, x9] := by
  match L, h with
  | [x0, x1, x2, x3, x4, x5, x6, x7, x8, x9], _ => exact ⟨_, _, _, _, _, _, _, _, _, _, rfl⟩
def u32R (x : Int) : Int := IntKind.u32.wrap x
/-- the call that words are -/
def rdW (W : List (List UInt8)) : CallM :=
  ⟨numR (W.getD 0 []) 63, K.ixS (W.getD 1 []) opNm, u32R (numR (W.getD 2 []) 4294967295), u32R (numR (W.getD 3 []) 4294967295), K.ixS (W.getD 4 []) resNm, u32R (numR (W.getD 5 []) 4294967295), whenR (W.getD 6 []), whenR (W.getD 8 []), whenR (W.getD 7 []), decide (¬ W.getD 9 [] = [45]), decide (W.getD 9 [] = [107, 101, 112, 116])⟩
/-- is each word what it has to be? -/
def isR (W : List (List UInt8)) : Bool :=
  ((((((((true && decide (0 ≤ numR (W.getD 0 []) 63)) && decide (0 ≤ K.ixS (W.getD 1 []) opNm ∧ ¬ W.getD 1 [] = [])) && decide (0 ≤ numR (W.getD 2 []) 4294967295)) && decide (0 ≤ numR (W.getD 3 []) 4294967295)) && decide (0 ≤ K.ixS (W.getD 4 []) resNm ∧ ¬ W.getD 4 [] = [])) && decide (0 ≤ numR (W.getD 5 []) 4294967295)) && decide (W.getD 6 [] = [45] ∨ 0 ≤ numR (W.getD 6 []) 1099511627776)) && decide (W.getD 7 [] = [45] ∨ 0 ≤ numR (W.getD 7 []) 1099511627776)) && decide (W.getD 8 [] = [45] ∨ 0 ≤ numR (W.getD 8 []) 1099511627776)
/-- is a line a call's? -/
def okR (l : List UInt8) : Prop := (K.spl 32 l).length = 10 ∧ isR (K.spl 32 l) = true ∧ endR (rdW (K.spl 32 l)) = (K.spl 32 l).getD 9 []
instance (l : List UInt8) : Decidable (okR l) := inferInstanceAs (Decidable (_ ∧ _))
def readR (l : List UInt8) : CallM := rdW (K.spl 32 l)
def callA (c : CallM) : Value := .agg (cCall c).toArray
theorem getD_le {c : UInt8} {l x : List UInt8} {W : List (List UInt8)} (i : Nat) (hW : K.spl c l = W) (hx : W.getD i [] = x) : x.length ≤ l.length := by subst hx hW; exact K.getD_spl_len c l i
theorem okR_len {l : List UInt8} {b : Bool} (h : ¬ (K.spl 32 l).length = 10) : ¬ okR l := fun hh => h hh.1
theorem isR_eq {x0 x1 x2 x3 x4 x5 x6 x7 x8 x9 : List UInt8} {b1 b2 b3 b4 b5 b6 b7 b8 b9 : Bool} (h1 : b1 = (true && decide (0 ≤ numR x0 63))) (h2 : b2 = (b1 && decide (0 ≤ K.ixS x1 opNm ∧ ¬ x1 = []))) (h3 : b3 = (b2 && decide (0 ≤ numR x2 4294967295))) (h4 : b4 = (b3 && decide (0 ≤ numR x3 4294967295)))
    (h5 : b5 = (b4 && decide (0 ≤ K.ixS x4 resNm ∧ ¬ x4 = []))) (h6 : b6 = (b5 && decide (0 ≤ numR x5 4294967295))) (h7 : b7 = (b6 && decide (x6 = [45] ∨ 0 ≤ numR x6 1099511627776))) (h8 : b8 = (b7 && decide (x7 = [45] ∨ 0 ≤ numR x7 1099511627776))) (h9 : b9 = (b8 && decide (x8 = [45] ∨ 0 ≤ numR x8 1099511627776))) :
    isR [x0, x1, x2, x3, x4, x5, x6, x7, x8, x9] = b9 := by subst h1 h2 h3 h4 h5 h6 h7 h8 h9; rfl
theorem rdW_eq {x0 x1 x2 x3 x4 x5 x6 x7 x8 x9 : List UInt8} {p q : Bool} (hp : decide (¬ x9 = [45]) = p) (hq : decide (x9 = [107, 101, 112, 116]) = q) : rdW [x0, x1, x2, x3, x4, x5, x6, x7, x8, x9] = ⟨numR x0 63, K.ixS x1 opNm, u32R (numR x2 4294967295), u32R (numR x3 4294967295), K.ixS x4 resNm, u32R (numR x5 4294967295), whenR x6, whenR x8, whenR x7, p, q⟩ := by
  subst hp hq; rfl
set_option maxHeartbeats 4000000 in
set_option maxRecDepth 100000 in
theorem read_ok (w0 : World) (l : List UInt8) (hl : l.length ≤ 1000000) :
    K.GC Tryd.prog w0 10 #[.string (K.sb l)] [] (fun v post => post = [] ∧ ((okR l ∧ v = .tuple #[callA (readR l), .int .i64 0]) ∨ (¬ okR l ∧ v = .tuple #[callA call0, .int .i64 3]))) := by
  refine K.GC.mk (n := 74) Tryd.func10 rfl rfl [.string (K.sb l)] rfl rfl ?_
  intro fr w hS
  replace hS : K.Sat w0 [fr] w := hS
  refine K.KW.seq ?_
  -- 0 :93
  refine K.KW.region ?_
  refine K.RW.l rfl (K.OW.gnew 29 [.int .i64 0, .int .i64 0, .int .u32 0, .int .u32 0, .int .i64 0, .int .u32 0, .int .i64 0, .int .i64 0, .int .i64 0, .bool false, .bool false] hS ?_)
  clear hS; intro w r_1 g_2 hg_3 hS
  refine K.RW.qs [.int .i64 0] (by kernel_rfl) ?_
  refine K.RW.nil ?_
  refine K.thn_normal ?_
  refine K.KW.seq ?_
  -- 1 :94
  refine K.KW.region ?_
  refine K.RW.qs [.string (K.sb l)] (by kernel_rfl) ?_
  refine K.RW.l rfl (K.OW.gcall hS [] [0, 1] [.string (K.sb l), .string (K.sb [32])] (split_ok _ l 32 (by omega)) ?_)
  clear hS; rintro _ _ w ⟨r_4, g_5, rfl, rfl, o_6⟩ hS
  replace hS : K.Sat w0 [g_5, g_2, fr] w := hS
  refine K.RW.l rfl (K.OW.gnew 68 [.slice none 0 0] hS ?_)
  clear hS; intro w r_7 g_8 hg_9 hS
  refine K.RW.l rfl (K.OW.gst 0 [.slice (some ⟨r_4, 0, none⟩) ((K.spl 32 l).length) ((K.spl 32 l).length)] [.slice (some ⟨r_4, 0, none⟩) ((K.spl 32 l).length) ((K.spl 32 l).length)] hS hg_9 ?_)
  clear hS; intro w g_10 hg_11 hS
  replace hS : K.Sat w0 [g_10, g_5, g_2, fr] w := hS
  refine K.RW.nil ?_
  refine K.thn_normal ?_
  refine K.KW.seq ?_
  refine K.KW.seq ?_
  -- 2 :95
  refine K.KW.region ?_
  refine K.RW.q rfl rfl (K.QR.ld1 (v := .slice (some ⟨r_4, 0, none⟩) ((K.spl 32 l).length) ((K.spl 32 l).length)) rfl rfl (by kernel_rfl) ((hS.blk 0 rfl hg_11).cell rfl)) ?_
  refine K.RW.q rfl rfl (K.QR.len (P := Tryd.prog) rfl rfl Tryd.underlying68) ?_
  by_cases h_12 : ((((K.spl 32 l).length : Nat) : Int) : Int) = (10 : Int)
  ·  -- yes
    refine K.RW.q rfl rfl (K.QR.nice (v := .bool (((((K.spl 32 l).length : Nat) : Int) : Int) != (10 : Int))) (by kernel_rfl) (congrArg Value.bool (bne_eq_false_iff_eq.2 h_12))) ?_
    refine K.RW.nil ?_
    refine K.thn_normal ?_
    refine K.KW.ifF rfl ?_
    refine K.KW.skip ?_
    refine K.thn_normal ?_
    refine K.KW.seq ?_
    -- 4 :98
    obtain ⟨x0, x1, x2, x3, x4, x5, x6, x7, x8, x9, hL⟩ := list10 (L := K.spl 32 l) (by omega)
    rw [hL] at o_6 hg_11
    have hx0 := getD_le 0 hL (show _ = x0 from rfl)
    have hx1 := getD_le 1 hL (show _ = x1 from rfl)
    have hx2 := getD_le 2 hL (show _ = x2 from rfl)
    have hx3 := getD_le 3 hL (show _ = x3 from rfl)
    have hx4 := getD_le 4 hL (show _ = x4 from rfl)
    have hx5 := getD_le 5 hL (show _ = x5 from rfl)
    have hx6 := getD_le 6 hL (show _ = x6 from rfl)
    have hx7 := getD_le 7 hL (show _ = x7 from rfl)
    have hx8 := getD_le 8 hL (show _ = x8 from rfl)
    have hx9 := getD_le 9 hL (show _ = x9 from rfl)
    have hrd : ∀ w, K.Sat w0 [g_5] w → K.RowE w (some ⟨r_4, 0, none⟩) [x0, x1, x2, x3, x4, x5, x6, x7, x8, x9].length 1 (fun i => K.cStr ([x0, x1, x2, x3, x4, x5, x6, x7, x8, x9].getD i [])) := fun w h => K.Own.rowE [] (h.ownr 0 rfl o_6) rfl (fun _ => rfl)
    have hcap : ([x0, x1, x2, x3, x4, x5, x6, x7, x8, x9].length) ≤ [x0, x1, x2, x3, x4, x5, x6, x7, x8, x9].length := Nat.le_refl _
    replace hg_11 : g_10 = [K.pt r_7 68 [.slice (some ⟨r_4, 0, none⟩) ([x0, x1, x2, x3, x4, x5, x6, x7, x8, x9].length) ([x0, x1, x2, x3, x4, x5, x6, x7, x8, x9].length)]] := hg_11
    refine K.KW.region ?_
    refine K.RW.l rfl (K.OW.gnew 4 [.bool false] hS ?_)
    clear hS; intro w r_13 g_14 hg_15 hS
    refine K.RW.l rfl (K.OW.gst 0 [.bool true] [.bool true] hS hg_15 ?_)
    clear hS; intro w g_16 hg_17 hS
    replace hS : K.Sat w0 [g_16, g_10, g_5, g_2, fr] w := hS
    refine K.RW.nil ?_
    refine K.thn_normal ?_
    refine K.KW.seq ?_
    -- 5 :99
    refine K.KW.region ?_
    refine K.RW.q rfl rfl (K.QR.fn [] [.pointer (some ⟨r_7, 0, none⟩)] rfl rfl rfl) ?_
    refine K.RW.l rfl (K.OW.gnew 70 [.nilFunc] hS ?_)
    clear hS; intro w r_18 g_19 hg_20 hS
    refine K.RW.l rfl (K.OW.gst 0 [.func (.func 32) [].toArray [.pointer (some ⟨r_7, 0, none⟩)].toArray] [.func (.func 32) [].toArray [.pointer (some ⟨r_7, 0, none⟩)].toArray] hS hg_20 ?_)
    clear hS; intro w g_21 hg_22 hS
    replace hS : K.Sat w0 [g_21, g_16, g_10, g_5, g_2, fr] w := hS
    refine K.RW.nil ?_
    refine K.thn_normal ?_
    refine K.KW.seq ?_
    -- 6 :104
    refine K.KW.region ?_
    refine K.RW.q rfl rfl (K.QR.fn [] [.pointer (some ⟨r_18, 0, none⟩), .pointer (some ⟨r_13, 0, none⟩)] rfl rfl rfl) ?_
    refine K.RW.l rfl (K.OW.gnew 72 [.nilFunc] hS ?_)
    clear hS; intro w r_23 g_24 hg_25 hS
    refine K.RW.l rfl (K.OW.gst 0 [.func (.func 33) [].toArray [.pointer (some ⟨r_18, 0, none⟩), .pointer (some ⟨r_13, 0, none⟩)].toArray] [.func (.func 33) [].toArray [.pointer (some ⟨r_18, 0, none⟩), .pointer (some ⟨r_13, 0, none⟩)].toArray] hS hg_25 ?_)
    clear hS; intro w g_26 hg_27 hS
    replace hS : K.Sat w0 [g_26, g_21, g_16, g_10, g_5, g_2, fr] w := hS
    refine K.RW.nil ?_
    refine K.thn_normal ?_
    refine K.KW.seq ?_
    -- 7 :109
    refine K.KW.region ?_
    refine K.RW.q rfl rfl (K.QR.fn [] [.pointer (some ⟨r_18, 0, none⟩), .pointer (some ⟨r_13, 0, none⟩)] rfl rfl rfl) ?_
    refine K.RW.qs [.func (.func 35) [].toArray [.pointer (some ⟨r_18, 0, none⟩), .pointer (some ⟨r_13, 0, none⟩)].toArray] (by kernel_rfl) ?_
    refine K.RW.nil ?_
    refine K.thn_normal ?_
    refine K.KW.seq ?_
    -- 8 :115
    refine K.KW.region ?_
    refine K.RW.q rfl rfl (K.QR.fn [] [.pointer (some ⟨r_7, 0, none⟩), .pointer (some ⟨r_18, 0, none⟩), .pointer (some ⟨r_23, 0, none⟩)] rfl rfl rfl) ?_
    refine K.RW.qs [.func (.func 37) [].toArray [.pointer (some ⟨r_7, 0, none⟩), .pointer (some ⟨r_18, 0, none⟩), .pointer (some ⟨r_23, 0, none⟩)].toArray] (by kernel_rfl) ?_
    refine K.RW.nil ?_
    refine K.thn_normal ?_
    refine K.KW.seq ?_
    -- 9 :122
    refine K.KW.region ?_
    refine K.RW.l rfl (K.OW.gnew 29 [.int .i64 0, .int .i64 0, .int .u32 0, .int .u32 0, .int .i64 0, .int .u32 0, .int .i64 0, .int .i64 0, .int .i64 0, .bool false, .bool false] hS ?_)
    clear hS; intro w r_28 g_29 hg_30 hS
    refine K.RW.nil ?_
    refine K.thn_normal ?_
    refine K.KW.seq ?_
    -- 10 :123
    refine K.KW.region ?_
    refine K.RW.q rfl rfl (K.QR.ld1 (v := .func (.func 33) [].toArray [.pointer (some ⟨r_18, 0, none⟩), .pointer (some ⟨r_13, 0, none⟩)].toArray) rfl rfl (by kernel_rfl) ((hS.blk 1 rfl hg_27).cell rfl)) ?_
    refine K.RW.l rfl (K.OW.gcallw hS [4, 5, 3, 2] [0, 1, 6, 7] [.int .i64 63, .pointer (some ⟨r_18, 0, none⟩), .pointer (some ⟨r_13, 0, none⟩)] (count_ok _ 63 (by omega) r_7 (some ⟨r_4, 0, none⟩) ([x0, x1, x2, x3, x4, x5, x6, x7, x8, x9].length) [x0, x1, x2, x3, x4, x5, x6, x7, x8, x9] _ hg_11 _ hrd hcap (by first | omega | (simp; done)) (by show x0.length ≤ 1000000; omega) _ _ _ _ _ hg_17 hg_22) ?_)
    clear hS; rintro _ _ w ⟨a_31, cap_32, gl_33, hl_34, hc_35, hx_36, gi_37, b_38, hi_39, hb_40, rfl, rfl⟩ hS
    replace hS : K.Sat w0 [gl_33, g_5, gi_37, g_21, g_29, g_26, g_2, fr] w := hS
    replace hl_34 : gl_33 = [K.pt r_7 68 [.slice a_31 ([x1, x2, x3, x4, x5, x6, x7, x8, x9].length) cap_32]] := hl_34
    replace hx_36 : ∀ w, K.Sat w0 [g_5] w → K.RowE w a_31 ([x1, x2, x3, x4, x5, x6, x7, x8, x9].length) 1 (fun i => K.cStr ([x1, x2, x3, x4, x5, x6, x7, x8, x9].getD i [])) := hx_36
    refine K.RW.qs [.pointer (some ⟨r_28, 0, none⟩)] (by kernel_rfl) ?_
    refine K.RW.l rfl (K.OW.gst 4 [.int .i64 (numR x0 63)] [.int .i64 (numR x0 63), .int .i64 0, .int .u32 0, .int .u32 0, .int .i64 0, .int .u32 0, .int .i64 0, .int .i64 0, .int .i64 0, .bool false, .bool false] hS hg_30 ?_)
    clear hS; intro w g_41 hg_42 hS
    replace hS : K.Sat w0 [gl_33, g_5, gi_37, g_21, g_41, g_26, g_2, fr] w := hS
    refine K.RW.nil ?_
    refine K.thn_normal ?_
    refine K.KW.seq ?_
    -- 11 :124
    refine K.KW.gdrawn [5] hS (by kernel_rfl) ?_
    clear hS; intro w hS
    refine K.DW.q 0 (by kernel_rfl) rfl rfl (by kernel_rfl) rfl (fun w hS => K.QR.k (v := .func (.func 35) [].toArray [.pointer (some ⟨r_18, 0, none⟩), .pointer (some ⟨r_13, 0, none⟩)].toArray) (by kernel_rfl)) (hS.pick [5]) ?_
    refine K.DW.q 3 (by kernel_rfl) rfl rfl (by kernel_rfl) rfl (fun w hS => K.QR.ld1 (v := .func (.func 33) [].toArray [.pointer (some ⟨r_18, 0, none⟩), .pointer (some ⟨r_13, 0, none⟩)].toArray) rfl rfl (by kernel_rfl) ((hS.blk 0 rfl hg_27).cell rfl)) (hS.pick [5]) ?_
    refine K.DW.q 6 (by kernel_rfl) rfl rfl (by kernel_rfl) rfl (fun w hS => K.QR.ld1 (v := .func (.func 33) [].toArray [.pointer (some ⟨r_18, 0, none⟩), .pointer (some ⟨r_13, 0, none⟩)].toArray) rfl rfl (by kernel_rfl) ((hS.blk 0 rfl hg_27).cell rfl)) (hS.pick [5]) ?_
    refine K.DW.l 1 rfl (by kernel_rfl) rfl (K.OW.gcall hS [] [0, 1, 2, 3, 4, 5, 6, 7] [] (opn_ok _) ?_)
    clear hS; rintro _ _ w ⟨r_43, g_44, rfl, rfl, h_45⟩ hS
    have h_45o : K.OwnG g_44 9 1 (some ⟨r_43, 0, none⟩) 9 9 (opNm.flatMap K.cStr) := K.OwnG.ofPt h_45 9 (by unfold maxLen; omega) rfl
    replace hS : K.Sat w0 [g_44, gl_33, g_5, gi_37, g_21, g_41, g_26, g_2, fr] w := hS
    refine ⟨.inl (hS.pick [6]), ?_⟩
    refine K.DW.l 2 rfl (by kernel_rfl) rfl (K.OW.gcallw hS [0, 1, 2, 3, 4] [5, 6, 7, 8] [.slice (some ⟨r_43, 0, none⟩) 9 9, .pointer (some ⟨r_18, 0, none⟩), .pointer (some ⟨r_13, 0, none⟩)] (named_ok _ _ _ opNm (by decide) _ (fun w h => K.RowE.len (K.Own.rowE [] (h.ownr 0 rfl h_45o) rfl (fun _ => rfl)) rfl) r_7 a_31 cap_32 [x1, x2, x3, x4, x5, x6, x7, x8, x9] _ hl_34 _ hx_36 hc_35 (by first | omega | (simp; done)) _ _ _ _ _ hi_39 hg_22) ?_)
    clear hS; rintro _ _ w ⟨a_46, cap_47, gl_48, hl_49, hc_50, hx_51, gi_52, b_53, hi_54, hb_55, rfl, rfl⟩ hS
    replace hS : K.Sat w0 [g_44, gl_48, g_5, gi_52, g_21, g_41, g_26, g_2, fr] w := hS
    replace hl_49 : gl_48 = [K.pt r_7 68 [.slice a_46 ([x2, x3, x4, x5, x6, x7, x8, x9].length) cap_47]] := hl_49
    replace hx_51 : ∀ w, K.Sat w0 [g_5] w → K.RowE w a_46 ([x2, x3, x4, x5, x6, x7, x8, x9].length) 1 (fun i => K.cStr ([x2, x3, x4, x5, x6, x7, x8, x9].getD i [])) := hx_51
    refine ⟨.inl (hS.pick [6]), ?_⟩
    refine K.DW.l 4 rfl (by kernel_rfl) rfl (K.OW.gcallw hS [1, 2, 3, 4] [0, 5, 6, 7, 8] [.int .i64 4294967295, .pointer (some ⟨r_18, 0, none⟩), .pointer (some ⟨r_13, 0, none⟩)] (count_ok _ 4294967295 (by omega) r_7 a_46 cap_47 [x2, x3, x4, x5, x6, x7, x8, x9] _ hl_49 _ hx_51 hc_50 (by first | omega | (simp; done)) (by show x2.length ≤ 1000000; omega) _ _ _ _ _ hi_54 hg_22) ?_)
    clear hS; rintro _ _ w ⟨a_56, cap_57, gl_58, hl_59, hc_60, hx_61, gi_62, b_63, hi_64, hb_65, rfl, rfl⟩ hS
    replace hS : K.Sat w0 [gl_58, g_5, gi_62, g_21, g_44, g_41, g_26, g_2, fr] w := hS
    replace hl_59 : gl_58 = [K.pt r_7 68 [.slice a_56 ([x3, x4, x5, x6, x7, x8, x9].length) cap_57]] := hl_59
    replace hx_61 : ∀ w, K.Sat w0 [g_5] w → K.RowE w a_56 ([x3, x4, x5, x6, x7, x8, x9].length) 1 (fun i => K.cStr ([x3, x4, x5, x6, x7, x8, x9].getD i [])) := hx_61
    refine ⟨.inl (hS.pick [6]), ?_⟩
    refine K.DW.q 5 (by kernel_rfl) rfl rfl (by kernel_rfl) rfl (fun w hS => K.QR.k (v := .int .u32 (IntKind.u32.wrap (numR x2 4294967295))) (by kernel_rfl)) (hS.pick [6]) ?_
    refine K.DW.l 7 rfl (by kernel_rfl) rfl (K.OW.gcallw hS [0, 1, 2, 3] [4, 5, 6, 7, 8] [.int .i64 4294967295, .pointer (some ⟨r_18, 0, none⟩), .pointer (some ⟨r_13, 0, none⟩)] (count_ok _ 4294967295 (by omega) r_7 a_56 cap_57 [x3, x4, x5, x6, x7, x8, x9] _ hl_59 _ hx_61 hc_60 (by first | omega | (simp; done)) (by show x3.length ≤ 1000000; omega) _ _ _ _ _ hi_64 hg_22) ?_)
    clear hS; rintro _ _ w ⟨a_66, cap_67, gl_68, hl_69, hc_70, hx_71, gi_72, b_73, hi_74, hb_75, rfl, rfl⟩ hS
    replace hS : K.Sat w0 [gl_68, g_5, gi_72, g_21, g_44, g_41, g_26, g_2, fr] w := hS
    replace hl_69 : gl_68 = [K.pt r_7 68 [.slice a_66 ([x4, x5, x6, x7, x8, x9].length) cap_67]] := hl_69
    replace hx_71 : ∀ w, K.Sat w0 [g_5] w → K.RowE w a_66 ([x4, x5, x6, x7, x8, x9].length) 1 (fun i => K.cStr ([x4, x5, x6, x7, x8, x9].getD i [])) := hx_71
    refine ⟨.inl (hS.pick [6]), ?_⟩
    refine K.DW.l 8 rfl (by kernel_rfl) rfl (K.OW.q rfl (K.QR.k (v := .int .u32 (IntKind.u32.wrap (numR x3 4294967295))) (by kernel_rfl)) ?_)
    refine ⟨.inl (hS.pick [6]), ?_⟩
    refine K.DW.l 9 rfl (by kernel_rfl) rfl (K.OW.q rfl (K.QR.bd [(0, .int .i64 (K.ixS x1 opNm)), (1, .int .u32 (IntKind.u32.wrap (numR x2 4294967295))), (2, .int .u32 (IntKind.u32.wrap (numR x3 4294967295)))] [.int .i64 (K.ixS x1 opNm), .int .u32 (IntKind.u32.wrap (numR x2 4294967295)), .int .u32 (IntKind.u32.wrap (numR x3 4294967295))] rfl rfl (by kernel_rfl)) ?_)
    refine ⟨.inl (hS.pick [6]), ?_⟩
    refine K.DW.l 10 rfl (by kernel_rfl) rfl (K.OW.q rfl (K.QR.k (v := .pointer (some ⟨r_28, 1, none⟩)) (by kernel_rfl)) ?_)
    refine ⟨.inl (hS.pick [6]), ?_⟩
    refine K.DW.l 11 rfl (by kernel_rfl) rfl (K.OW.gst 5 [.int .i64 (K.ixS x1 opNm), .int .u32 (IntKind.u32.wrap (numR x2 4294967295)), .int .u32 (IntKind.u32.wrap (numR x3 4294967295))] [.int .i64 (numR x0 63), .int .i64 (K.ixS x1 opNm), .int .u32 (IntKind.u32.wrap (numR x2 4294967295)), .int .u32 (IntKind.u32.wrap (numR x3 4294967295)), .int .i64 0, .int .u32 0, .int .i64 0, .int .i64 0, .int .i64 0, .bool false, .bool false] hS hg_42 ?_)
    clear hS; intro w g_76 hg_77 hS
    replace hS : K.Sat w0 [gl_68, g_5, gi_72, g_21, g_44, g_76, g_26, g_2, fr] w := hS
    refine ⟨.inr (by kernel_rfl), ?_⟩
    refine K.DW.done (by kernel_rfl) ?_
    refine K.thn_normal ?_
    refine K.KW.seq ?_
    -- 12 :125
    refine K.KW.gdrawn [6] hS (by kernel_rfl) ?_
    clear hS; intro w hS
    refine K.DW.q 0 (by kernel_rfl) rfl rfl (by kernel_rfl) rfl (fun w hS => K.QR.k (v := .func (.func 35) [].toArray [.pointer (some ⟨r_18, 0, none⟩), .pointer (some ⟨r_13, 0, none⟩)].toArray) (by kernel_rfl)) (hS.pick [6]) ?_
    refine K.DW.q 3 (by kernel_rfl) rfl rfl (by kernel_rfl) rfl (fun w hS => K.QR.ld1 (v := .func (.func 33) [].toArray [.pointer (some ⟨r_18, 0, none⟩), .pointer (some ⟨r_13, 0, none⟩)].toArray) rfl rfl (by kernel_rfl) ((hS.blk 0 rfl hg_27).cell rfl)) (hS.pick [6]) ?_
    refine K.DW.l 1 rfl (by kernel_rfl) rfl (K.OW.gcall hS [] [0, 1, 2, 3, 4, 5, 6, 7, 8] [] (resn_ok _) ?_)
    clear hS; rintro _ _ w ⟨r_78, g_79, rfl, rfl, h_80⟩ hS
    have h_80o : K.OwnG g_79 9 1 (some ⟨r_78, 0, none⟩) 6 6 (resNm.flatMap K.cStr) := K.OwnG.ofPt h_80 6 (by unfold maxLen; omega) rfl
    replace hS : K.Sat w0 [g_79, gl_68, g_5, gi_72, g_21, g_44, g_76, g_26, g_2, fr] w := hS
    refine ⟨.inl (hS.pick [7]), ?_⟩
    refine K.DW.l 2 rfl (by kernel_rfl) rfl (K.OW.gcallw hS [0, 1, 2, 3, 4] [5, 6, 7, 8, 9] [.slice (some ⟨r_78, 0, none⟩) 6 6, .pointer (some ⟨r_18, 0, none⟩), .pointer (some ⟨r_13, 0, none⟩)] (named_ok _ _ _ resNm (by decide) _ (fun w h => K.RowE.len (K.Own.rowE [] (h.ownr 0 rfl h_80o) rfl (fun _ => rfl)) rfl) r_7 a_66 cap_67 [x4, x5, x6, x7, x8, x9] _ hl_69 _ hx_71 hc_70 (by first | omega | (simp; done)) _ _ _ _ _ hi_74 hg_22) ?_)
    clear hS; rintro _ _ w ⟨a_81, cap_82, gl_83, hl_84, hc_85, hx_86, gi_87, b_88, hi_89, hb_90, rfl, rfl⟩ hS
    replace hS : K.Sat w0 [g_79, gl_83, g_5, gi_87, g_21, g_44, g_76, g_26, g_2, fr] w := hS
    replace hl_84 : gl_83 = [K.pt r_7 68 [.slice a_81 ([x5, x6, x7, x8, x9].length) cap_82]] := hl_84
    replace hx_86 : ∀ w, K.Sat w0 [g_5] w → K.RowE w a_81 ([x5, x6, x7, x8, x9].length) 1 (fun i => K.cStr ([x5, x6, x7, x8, x9].getD i [])) := hx_86
    refine ⟨.inl (hS.pick [7]), ?_⟩
    refine K.DW.l 4 rfl (by kernel_rfl) rfl (K.OW.gcallw hS [1, 2, 3, 4] [0, 5, 6, 7, 8, 9] [.int .i64 4294967295, .pointer (some ⟨r_18, 0, none⟩), .pointer (some ⟨r_13, 0, none⟩)] (count_ok _ 4294967295 (by omega) r_7 a_81 cap_82 [x5, x6, x7, x8, x9] _ hl_84 _ hx_86 hc_85 (by first | omega | (simp; done)) (by show x5.length ≤ 1000000; omega) _ _ _ _ _ hi_89 hg_22) ?_)
    clear hS; rintro _ _ w ⟨a_91, cap_92, gl_93, hl_94, hc_95, hx_96, gi_97, b_98, hi_99, hb_100, rfl, rfl⟩ hS
    replace hS : K.Sat w0 [gl_93, g_5, gi_97, g_21, g_79, g_44, g_76, g_26, g_2, fr] w := hS
    replace hl_94 : gl_93 = [K.pt r_7 68 [.slice a_91 ([x6, x7, x8, x9].length) cap_92]] := hl_94
    replace hx_96 : ∀ w, K.Sat w0 [g_5] w → K.RowE w a_91 ([x6, x7, x8, x9].length) 1 (fun i => K.cStr ([x6, x7, x8, x9].getD i [])) := hx_96
    refine ⟨.inl (hS.pick [7]), ?_⟩
    refine K.DW.l 5 rfl (by kernel_rfl) rfl (K.OW.q rfl (K.QR.k (v := .int .u32 (IntKind.u32.wrap (numR x5 4294967295))) (by kernel_rfl)) ?_)
    refine ⟨.inl (hS.pick [7]), ?_⟩
    refine K.DW.l 6 rfl (by kernel_rfl) rfl (K.OW.q rfl (K.QR.bd [(0, .int .i64 (K.ixS x4 resNm)), (1, .int .u32 (IntKind.u32.wrap (numR x5 4294967295)))] [.int .i64 (K.ixS x4 resNm), .int .u32 (IntKind.u32.wrap (numR x5 4294967295))] rfl rfl (by kernel_rfl)) ?_)
    refine ⟨.inl (hS.pick [7]), ?_⟩
    refine K.DW.l 7 rfl (by kernel_rfl) rfl (K.OW.q rfl (K.QR.k (v := .pointer (some ⟨r_28, 4, none⟩)) (by kernel_rfl)) ?_)
    refine ⟨.inl (hS.pick [7]), ?_⟩
    refine K.DW.l 8 rfl (by kernel_rfl) rfl (K.OW.gst 6 [.int .i64 (K.ixS x4 resNm), .int .u32 (IntKind.u32.wrap (numR x5 4294967295))] [.int .i64 (numR x0 63), .int .i64 (K.ixS x1 opNm), .int .u32 (IntKind.u32.wrap (numR x2 4294967295)), .int .u32 (IntKind.u32.wrap (numR x3 4294967295)), .int .i64 (K.ixS x4 resNm), .int .u32 (IntKind.u32.wrap (numR x5 4294967295)), .int .i64 0, .int .i64 0, .int .i64 0, .bool false, .bool false] hS hg_77 ?_)
    clear hS; intro w g_101 hg_102 hS
    replace hS : K.Sat w0 [gl_93, g_5, gi_97, g_21, g_79, g_44, g_101, g_26, g_2, fr] w := hS
    refine ⟨.inr (by kernel_rfl), ?_⟩
    refine K.DW.done (by kernel_rfl) ?_
    refine K.thn_normal ?_
    refine K.KW.seq ?_
    -- 13 :126
    refine K.KW.region ?_
    refine K.RW.qs [.func (.func 37) [].toArray [.pointer (some ⟨r_7, 0, none⟩), .pointer (some ⟨r_18, 0, none⟩), .pointer (some ⟨r_23, 0, none⟩)].toArray] (by kernel_rfl) ?_
    refine K.RW.l rfl (K.OW.gcallw hS [0, 1, 2, 3, 7] [4, 5, 6, 8, 9] [.pointer (some ⟨r_7, 0, none⟩), .pointer (some ⟨r_18, 0, none⟩), .pointer (some ⟨r_23, 0, none⟩)] (when_ok _ r_7 a_91 cap_92 [x6, x7, x8, x9] _ hl_94 _ hx_96 hc_95 (by first | omega | (simp; done)) (by show x6.length ≤ 1000000; omega) _ _ _ _ _ hi_99 hg_22 _ _ hg_27) ?_)
    clear hS; rintro _ _ w ⟨a_103, cap_104, gl_105, hl_106, hc_107, hx_108, gi_109, b_110, hi_111, hb_112, rfl, rfl⟩ hS
    replace hS : K.Sat w0 [gl_105, g_5, gi_109, g_21, g_26, g_79, g_44, g_101, g_2, fr] w := hS
    replace hl_106 : gl_105 = [K.pt r_7 68 [.slice a_103 ([x7, x8, x9].length) cap_104]] := hl_106
    replace hx_108 : ∀ w, K.Sat w0 [g_5] w → K.RowE w a_103 ([x7, x8, x9].length) 1 (fun i => K.cStr ([x7, x8, x9].getD i [])) := hx_108
    refine K.RW.qs [.func (.func 37) [].toArray [.pointer (some ⟨r_7, 0, none⟩), .pointer (some ⟨r_18, 0, none⟩), .pointer (some ⟨r_23, 0, none⟩)].toArray] (by kernel_rfl) ?_
    refine K.RW.l rfl (K.OW.gcallw hS [0, 1, 2, 3, 4] [5, 6, 7, 8, 9] [.pointer (some ⟨r_7, 0, none⟩), .pointer (some ⟨r_18, 0, none⟩), .pointer (some ⟨r_23, 0, none⟩)] (when_ok _ r_7 a_103 cap_104 [x7, x8, x9] _ hl_106 _ hx_108 hc_107 (by first | omega | (simp; done)) (by show x7.length ≤ 1000000; omega) _ _ _ _ _ hi_111 hg_22 _ _ hg_27) ?_)
    clear hS; rintro _ _ w ⟨a_113, cap_114, gl_115, hl_116, hc_117, hx_118, gi_119, b_120, hi_121, hb_122, rfl, rfl⟩ hS
    replace hS : K.Sat w0 [gl_115, g_5, gi_119, g_21, g_26, g_79, g_44, g_101, g_2, fr] w := hS
    replace hl_116 : gl_115 = [K.pt r_7 68 [.slice a_113 ([x8, x9].length) cap_114]] := hl_116
    replace hx_118 : ∀ w, K.Sat w0 [g_5] w → K.RowE w a_113 ([x8, x9].length) 1 (fun i => K.cStr ([x8, x9].getD i [])) := hx_118
    refine K.RW.qs [.func (.func 37) [].toArray [.pointer (some ⟨r_7, 0, none⟩), .pointer (some ⟨r_18, 0, none⟩), .pointer (some ⟨r_23, 0, none⟩)].toArray] (by kernel_rfl) ?_
    refine K.RW.l rfl (K.OW.gcallw hS [0, 1, 2, 3, 4] [5, 6, 7, 8, 9] [.pointer (some ⟨r_7, 0, none⟩), .pointer (some ⟨r_18, 0, none⟩), .pointer (some ⟨r_23, 0, none⟩)] (when_ok _ r_7 a_113 cap_114 [x8, x9] _ hl_116 _ hx_118 hc_117 (by first | omega | (simp; done)) (by show x8.length ≤ 1000000; omega) _ _ _ _ _ hi_121 hg_22 _ _ hg_27) ?_)
    clear hS; rintro _ _ w ⟨a_123, cap_124, gl_125, hl_126, hc_127, hx_128, gi_129, b_130, hi_131, hb_132, rfl, rfl⟩ hS
    replace hS : K.Sat w0 [gl_125, g_5, gi_129, g_21, g_26, g_79, g_44, g_101, g_2, fr] w := hS
    replace hl_126 : gl_125 = [K.pt r_7 68 [.slice a_123 ([x9].length) cap_124]] := hl_126
    replace hx_128 : ∀ w, K.Sat w0 [g_5] w → K.RowE w a_123 ([x9].length) 1 (fun i => K.cStr ([x9].getD i [])) := hx_128
    refine K.RW.qs [.pointer (some ⟨r_28, 6, none⟩)] (by kernel_rfl) ?_
    refine K.RW.l rfl (K.OW.gst 7 [.int .i64 (whenR x6)] [.int .i64 (numR x0 63), .int .i64 (K.ixS x1 opNm), .int .u32 (IntKind.u32.wrap (numR x2 4294967295)), .int .u32 (IntKind.u32.wrap (numR x3 4294967295)), .int .i64 (K.ixS x4 resNm), .int .u32 (IntKind.u32.wrap (numR x5 4294967295)), .int .i64 (whenR x6), .int .i64 0, .int .i64 0, .bool false, .bool false] hS hg_102 ?_)
    clear hS; intro w g_133 hg_134 hS
    replace hS : K.Sat w0 [gl_125, g_5, gi_129, g_21, g_26, g_79, g_44, g_133, g_2, fr] w := hS
    refine K.RW.qs [.pointer (some ⟨r_28, 8, none⟩)] (by kernel_rfl) ?_
    refine K.RW.l rfl (K.OW.gst 7 [.int .i64 (whenR x7)] [.int .i64 (numR x0 63), .int .i64 (K.ixS x1 opNm), .int .u32 (IntKind.u32.wrap (numR x2 4294967295)), .int .u32 (IntKind.u32.wrap (numR x3 4294967295)), .int .i64 (K.ixS x4 resNm), .int .u32 (IntKind.u32.wrap (numR x5 4294967295)), .int .i64 (whenR x6), .int .i64 0, .int .i64 (whenR x7), .bool false, .bool false] hS hg_134 ?_)
    clear hS; intro w g_135 hg_136 hS
    replace hS : K.Sat w0 [gl_125, g_5, gi_129, g_21, g_26, g_79, g_44, g_135, g_2, fr] w := hS
    refine K.RW.qs [.pointer (some ⟨r_28, 7, none⟩)] (by kernel_rfl) ?_
    refine K.RW.l rfl (K.OW.gst 7 [.int .i64 (whenR x8)] [.int .i64 (numR x0 63), .int .i64 (K.ixS x1 opNm), .int .u32 (IntKind.u32.wrap (numR x2 4294967295)), .int .u32 (IntKind.u32.wrap (numR x3 4294967295)), .int .i64 (K.ixS x4 resNm), .int .u32 (IntKind.u32.wrap (numR x5 4294967295)), .int .i64 (whenR x6), .int .i64 (whenR x8), .int .i64 (whenR x7), .bool false, .bool false] hS hg_136 ?_)
    clear hS; intro w g_137 hg_138 hS
    replace hS : K.Sat w0 [gl_125, g_5, gi_129, g_21, g_26, g_79, g_44, g_137, g_2, fr] w := hS
    refine K.RW.nil ?_
    refine K.thn_normal ?_
    refine K.KW.seq ?_
    -- 14 :127
    have hone : ([x9] : List (List UInt8)).length = 1 := rfl
    obtain ⟨b_139, of_140, rfl, _⟩ := (hx_128 _ (hS.pick [1])).at_ (by omega)
    refine K.KW.gdrawn [0, 1] hS (by kernel_rfl) ?_
    clear hS; intro w hS
    refine K.DW.q 0 (by kernel_rfl) rfl rfl (by kernel_rfl) rfl (fun w hS => K.QR.ld1 (v := .slice (some ⟨b_139, of_140, none⟩) ([x9].length) cap_124) rfl rfl (by kernel_rfl) ((hS.blk 0 rfl hl_126).cell rfl)) (hS.pick [0, 1]) ?_
    refine K.DW.q 1 (by kernel_rfl) rfl rfl (by kernel_rfl) rfl (fun w hS => K.QR.ix (of_140 + 0 * 1) 1 rfl rfl rfl Tryd.underlying68 (by kernel_rfl) (by omega) (by first | (simp; done) | omega | (simp; omega))) (hS.pick [0, 1]) ?_
    refine K.DW.q 2 (by kernel_rfl) rfl rfl (by kernel_rfl) rfl (fun w hS => K.QR.ld1 (v := .string (K.sb ([x9].getD 0 []))) rfl rfl (by kernel_rfl) ((hx_128 _ (hS.pick [1])).ld 0 (by omega) 0 _ rfl)) (hS.pick [0, 1]) ?_
    by_cases h_141 : ([x9].getD 0 []) = ([45] : List UInt8)
    ·  -- yes
      refine K.DW.q 3 (by kernel_rfl) rfl rfl (by kernel_rfl) rfl (fun w hS => K.QR.sNe (xs := [x9].getD 0 []) (ys := [45]) false rfl rfl rfl (K.ndeq_t h_141)) (hS.pick [0, 1]) ?_
      refine K.DW.q 4 (by kernel_rfl) rfl rfl (by kernel_rfl) rfl (fun w hS => K.QR.ld1 (v := .slice (some ⟨b_139, of_140, none⟩) ([x9].length) cap_124) rfl rfl (by kernel_rfl) ((hS.blk 0 rfl hl_126).cell rfl)) (hS.pick [0, 1]) ?_
      refine K.DW.q 5 (by kernel_rfl) rfl rfl (by kernel_rfl) rfl (fun w hS => K.QR.ix (of_140 + 0 * 1) 1 rfl rfl rfl Tryd.underlying68 (by kernel_rfl) (by omega) (by first | (simp; done) | omega | (simp; omega))) (hS.pick [0, 1]) ?_
      refine K.DW.q 6 (by kernel_rfl) rfl rfl (by kernel_rfl) rfl (fun w hS => K.QR.ld1 (v := .string (K.sb ([x9].getD 0 []))) rfl rfl (by kernel_rfl) ((hx_128 _ (hS.pick [1])).ld 0 (by omega) 0 _ rfl)) (hS.pick [0, 1]) ?_
      by_cases h_142 : ([x9].getD 0 []) = ([107, 101, 112, 116] : List UInt8)
      ·  -- yes
        refine K.DW.q 7 (by kernel_rfl) rfl rfl (by kernel_rfl) rfl (fun w hS => K.QR.sEq (xs := [x9].getD 0 []) (ys := [107, 101, 112, 116]) true rfl rfl rfl (K.deq_t h_142)) (hS.pick [0, 1]) ?_
        refine K.DW.l 8 rfl (by kernel_rfl) rfl (K.OW.q rfl (K.QR.k (v := .pointer (some ⟨r_28, 9, none⟩)) (by kernel_rfl)) ?_)
        refine ⟨.inl (hS.pick [0, 1]), ?_⟩
        refine K.DW.l 9 rfl (by kernel_rfl) rfl (K.OW.gst 7 [.bool false] [.int .i64 (numR x0 63), .int .i64 (K.ixS x1 opNm), .int .u32 (IntKind.u32.wrap (numR x2 4294967295)), .int .u32 (IntKind.u32.wrap (numR x3 4294967295)), .int .i64 (K.ixS x4 resNm), .int .u32 (IntKind.u32.wrap (numR x5 4294967295)), .int .i64 (whenR x6), .int .i64 (whenR x8), .int .i64 (whenR x7), .bool false, .bool false] hS hg_138 ?_)
        clear hS; intro w g_143 hg_144 hS
        replace hS : K.Sat w0 [gl_125, g_5, gi_129, g_21, g_26, g_79, g_44, g_143, g_2, fr] w := hS
        refine ⟨.inl (hS.pick [0, 1]), ?_⟩
        refine K.DW.l 10 rfl (by kernel_rfl) rfl (K.OW.q rfl (K.QR.k (v := .pointer (some ⟨r_28, 10, none⟩)) (by kernel_rfl)) ?_)
        refine ⟨.inl (hS.pick [0, 1]), ?_⟩
        refine K.DW.l 11 rfl (by kernel_rfl) rfl (K.OW.gst 7 [.bool true] [.int .i64 (numR x0 63), .int .i64 (K.ixS x1 opNm), .int .u32 (IntKind.u32.wrap (numR x2 4294967295)), .int .u32 (IntKind.u32.wrap (numR x3 4294967295)), .int .i64 (K.ixS x4 resNm), .int .u32 (IntKind.u32.wrap (numR x5 4294967295)), .int .i64 (whenR x6), .int .i64 (whenR x8), .int .i64 (whenR x7), .bool false, .bool true] hS hg_144 ?_)
        clear hS; intro w g_145 hg_146 hS
        replace hS : K.Sat w0 [gl_125, g_5, gi_129, g_21, g_26, g_79, g_44, g_145, g_2, fr] w := hS
        refine ⟨.inr (by kernel_rfl), ?_⟩
        refine K.DW.done (by kernel_rfl) ?_
        refine K.thn_normal ?_
        refine K.KW.seq ?_
        refine K.KW.seq ?_
        -- 15 :128
        refine K.KW.gdrawn [0, 1, 7] hS (by kernel_rfl) ?_
        clear hS; intro w hS
        refine K.DW.l 0 rfl (by kernel_rfl) rfl (K.OW.q rfl (K.QR.ld1 (v := .bool b_130) rfl rfl (by kernel_rfl) ((hS.blk 2 rfl hi_131).cell rfl)) ?_)
        refine ⟨.inl (hS.pick [0, 1, 7]), ?_⟩
        cases hb_147 : b_130
        ·
          refine K.DW.l 1 rfl (by kernel_rfl) rfl (K.OW.q rfl (K.QR.k (v := .bool true) (by kernel_rfl)) ?_)
          refine ⟨.inl (hS.pick [0, 1, 7]), ?_⟩
          refine K.DW.l 2 rfl (by kernel_rfl) rfl (K.OW.q rfl (K.QR.k (v := .bool true) (by kernel_rfl)) ?_)
          refine ⟨.inl (hS.pick [0, 1, 7]), ?_⟩
          refine K.DW.skip 3 (by kernel_rfl) rfl rfl (by kernel_rfl) (by kernel_rfl) (hS.pick [0, 1, 7]) ?_
          refine K.DW.skip 4 (by kernel_rfl) rfl rfl (by kernel_rfl) (by kernel_rfl) (hS.pick [0, 1, 7]) ?_
          refine K.DW.skip 5 (by kernel_rfl) rfl rfl (by kernel_rfl) (by kernel_rfl) (hS.pick [0, 1, 7]) ?_
          refine K.DW.skip 6 (by kernel_rfl) rfl rfl (by kernel_rfl) (by kernel_rfl) (hS.pick [0, 1, 7]) ?_
          refine K.DW.skip 7 (by kernel_rfl) rfl rfl (by kernel_rfl) (by kernel_rfl) (hS.pick [0, 1, 7]) ?_
          refine K.DW.skip 8 (by kernel_rfl) rfl rfl (by kernel_rfl) (by kernel_rfl) (hS.pick [0, 1, 7]) ?_
          refine K.DW.l 9 rfl (by kernel_rfl) rfl (K.OW.q rfl (K.QR.k (v := .bool true) (by kernel_rfl)) ?_)
          refine ⟨.inl (hS.pick [0, 1, 7]), ?_⟩
          refine K.DW.done (by kernel_rfl) ?_
          refine K.thn_normal ?_
          refine K.KW.ifT rfl ?_
          refine K.KW.seq ?_
          -- 16 :129
          refine K.KW.region ?_
          refine K.RW.q rfl rfl (K.QR.bd [] [.int .i64 0, .int .i64 0, .int .u32 0, .int .u32 0, .int .i64 0, .int .u32 0, .int .i64 0, .int .i64 0, .int .i64 0, .bool false, .bool false] rfl rfl (by kernel_rfl)) ?_
          refine K.RW.l rfl (K.OW.gst 8 [.int .i64 0, .int .i64 0, .int .u32 0, .int .u32 0, .int .i64 0, .int .u32 0, .int .i64 0, .int .i64 0, .int .i64 0, .bool false, .bool false] [.int .i64 0, .int .i64 0, .int .u32 0, .int .u32 0, .int .i64 0, .int .u32 0, .int .i64 0, .int .i64 0, .int .i64 0, .bool false, .bool false] hS hg_3 ?_)
          clear hS; intro w g_148 hg_149 hS
          replace hS : K.Sat w0 [gl_125, g_5, gi_129, g_21, g_26, g_79, g_44, g_145, g_148, fr] w := hS
          refine K.RW.qs [.int .i64 3] (by kernel_rfl) ?_
          refine K.RW.nil ?_
          refine K.thn_normal ?_
          refine K.KW.ret ?_
          refine K.thn_ret ?_
          have hB : isR (K.spl 32 l) = b_130 := by rw [hL]; exact isR_eq hb_40 hb_55 hb_65 hb_75 hb_90 hb_100 hb_112 hb_122 hb_132
          have hE := rdW_eq (x0 := x0) (x1 := x1) (x2 := x2) (x3 := x3) (x4 := x4) (x5 := x5) (x6 := x6) (x7 := x7) (x8 := x8) (x9 := x9) (p := false) (q := true) (decide_eq_false fun hh => hh h_141) (decide_eq_true h_142)
          refine ⟨.inr rfl, rfl, (.tuple #[.agg #[.int .i64 0, .int .i64 0, .int .u32 0, .int .u32 0, .int .i64 0, .int .u32 0, .int .i64 0, .int .i64 0, .int .i64 0, .bool false, .bool false], .int .i64 3]), K.resAt (rs := [.cell 2 29, .tmp 3]) [.agg #[.int .i64 0, .int .i64 0, .int .u32 0, .int .u32 0, .int .i64 0, .int .u32 0, .int .i64 0, .int .i64 0, .int .i64 0, .bool false, .bool false], .int .i64 3] rfl ⟨⟨_, rfl, K.lvN [.int .i64 0, .int .i64 0, .int .u32 0, .int .u32 0, .int .i64 0, .int .u32 0, .int .i64 0, .int .i64 0, .int .i64 0, .bool false, .bool false] (by kernel_rfl) (by kernel_rfl) (K.cells (K.cl ((hS.blk 8 rfl hg_149).cell rfl) (K.cl ((hS.blk 8 rfl hg_149).cell rfl) (K.cl ((hS.blk 8 rfl hg_149).cell rfl) (K.cl ((hS.blk 8 rfl hg_149).cell rfl) (K.cl ((hS.blk 8 rfl hg_149).cell rfl) (K.cl ((hS.blk 8 rfl hg_149).cell rfl) (K.cl ((hS.blk 8 rfl hg_149).cell rfl) (K.cl ((hS.blk 8 rfl hg_149).cell rfl) (K.cl ((hS.blk 8 rfl hg_149).cell rfl) (K.cl ((hS.blk 8 rfl hg_149).cell rfl) (K.cl ((hS.blk 8 rfl hg_149).cell rfl) K.cl0))))))))))))⟩, rfl, trivial⟩, [], ?_, hS.pick [9]⟩
          exact ⟨rfl, .inr ⟨fun hh => (by cases (hB.trans hb_147).symm.trans hh.2.1), rfl⟩⟩
        ·
          refine K.DW.l 1 rfl (by kernel_rfl) rfl (K.OW.q rfl (K.QR.k (v := .bool false) (by kernel_rfl)) ?_)
          refine ⟨.inl (hS.pick [0, 1, 7]), ?_⟩
          refine K.DW.l 2 rfl (by kernel_rfl) rfl (K.OW.q rfl (K.QR.k (v := .bool false) (by kernel_rfl)) ?_)
          refine ⟨.inl (hS.pick [0, 1, 7]), ?_⟩
          refine K.DW.q 3 (by kernel_rfl) rfl rfl (by kernel_rfl) (by kernel_rfl) (fun w hS => K.QR.ldN [.int .i64 (numR x0 63), .int .i64 (K.ixS x1 opNm), .int .u32 (IntKind.u32.wrap (numR x2 4294967295)), .int .u32 (IntKind.u32.wrap (numR x3 4294967295)), .int .i64 (K.ixS x4 resNm), .int .u32 (IntKind.u32.wrap (numR x5 4294967295)), .int .i64 (whenR x6), .int .i64 (whenR x8), .int .i64 (whenR x7), .bool false, .bool true] rfl rfl (by kernel_rfl) (by kernel_rfl) (K.cells (K.cl ((hS.blk 2 rfl hg_146).cell rfl) (K.cl ((hS.blk 2 rfl hg_146).cell rfl) (K.cl ((hS.blk 2 rfl hg_146).cell rfl) (K.cl ((hS.blk 2 rfl hg_146).cell rfl) (K.cl ((hS.blk 2 rfl hg_146).cell rfl) (K.cl ((hS.blk 2 rfl hg_146).cell rfl) (K.cl ((hS.blk 2 rfl hg_146).cell rfl) (K.cl ((hS.blk 2 rfl hg_146).cell rfl) (K.cl ((hS.blk 2 rfl hg_146).cell rfl) (K.cl ((hS.blk 2 rfl hg_146).cell rfl) (K.cl ((hS.blk 2 rfl hg_146).cell rfl) K.cl0))))))))))))) (hS.pick [0, 1, 7]) ?_
          refine K.DW.q 5 (by kernel_rfl) rfl rfl (by kernel_rfl) (by kernel_rfl) (fun w hS => K.QR.ld1 (v := .slice (some ⟨b_139, of_140, none⟩) ([x9].length) cap_124) rfl rfl (by kernel_rfl) ((hS.blk 0 rfl hl_126).cell rfl)) (hS.pick [0, 1, 7]) ?_
          refine K.DW.q 6 (by kernel_rfl) rfl rfl (by kernel_rfl) (by kernel_rfl) (fun w hS => K.QR.ix (of_140 + 0 * 1) 1 rfl rfl rfl Tryd.underlying68 (by kernel_rfl) (by omega) (by first | (simp; done) | omega | (simp; omega))) (hS.pick [0, 1, 7]) ?_
          refine K.DW.q 7 (by kernel_rfl) rfl rfl (by kernel_rfl) (by kernel_rfl) (fun w hS => K.QR.ld1 (v := .string (K.sb ([x9].getD 0 []))) rfl rfl (by kernel_rfl) ((hx_128 _ (hS.pick [1])).ld 0 (by omega) 0 _ rfl)) (hS.pick [0, 1, 7]) ?_
          refine K.DW.l 4 rfl (by kernel_rfl) (by kernel_rfl) (K.OW.gcall hS [] [0, 1, 2, 3, 4, 5, 6, 7, 8, 9] [.agg #[.int .i64 (numR x0 63), .int .i64 (K.ixS x1 opNm), .int .u32 (IntKind.u32.wrap (numR x2 4294967295)), .int .u32 (IntKind.u32.wrap (numR x3 4294967295)), .int .i64 (K.ixS x4 resNm), .int .u32 (IntKind.u32.wrap (numR x5 4294967295)), .int .i64 (whenR x6), .int .i64 (whenR x8), .int .i64 (whenR x7), .bool false, .bool true]] (ending_ok _ (⟨(numR x0 63), (K.ixS x1 opNm), IntKind.u32.wrap (numR x2 4294967295), IntKind.u32.wrap (numR x3 4294967295), (K.ixS x4 resNm), IntKind.u32.wrap (numR x5 4294967295), (whenR x6), (whenR x8), (whenR x7), false, true⟩ : CallM)) ?_)
          clear hS; rintro _ _ w ⟨rfl, rfl⟩ hS
          replace hS : K.Sat w0 [gl_125, g_5, gi_129, g_21, g_26, g_79, g_44, g_145, g_2, fr] w := hS
          refine ⟨.inl (hS.pick [0, 1, 7]), ?_⟩
          by_cases h_150 : (endR (⟨(numR x0 63), (K.ixS x1 opNm), IntKind.u32.wrap (numR x2 4294967295), IntKind.u32.wrap (numR x3 4294967295), (K.ixS x4 resNm), IntKind.u32.wrap (numR x5 4294967295), (whenR x6), (whenR x8), (whenR x7), false, true⟩ : CallM)) = ([x9].getD 0 [])
          ·  -- yes
            refine K.DW.l 8 rfl (by kernel_rfl) (by kernel_rfl) (K.OW.q rfl (K.QR.sNe (xs := (endR (⟨(numR x0 63), (K.ixS x1 opNm), IntKind.u32.wrap (numR x2 4294967295), IntKind.u32.wrap (numR x3 4294967295), (K.ixS x4 resNm), IntKind.u32.wrap (numR x5 4294967295), (whenR x6), (whenR x8), (whenR x7), false, true⟩ : CallM))) (ys := [x9].getD 0 []) false rfl rfl rfl (K.ndeq_t h_150)) ?_)
            refine ⟨.inl (hS.pick [0, 1, 7]), ?_⟩
            refine K.DW.l 9 rfl (by kernel_rfl) rfl (K.OW.q rfl (K.QR.k (v := .bool false) (by kernel_rfl)) ?_)
            refine ⟨.inl (hS.pick [0, 1, 7]), ?_⟩
            refine K.DW.done (by kernel_rfl) ?_
            refine K.thn_normal ?_
            refine K.KW.ifF rfl ?_
            refine K.KW.skip ?_
            refine K.thn_normal ?_
            refine K.KW.seq ?_
            -- 17 :131
            refine K.KW.region ?_
            refine K.RW.q rfl rfl (K.QR.ldN [.int .i64 (numR x0 63), .int .i64 (K.ixS x1 opNm), .int .u32 (IntKind.u32.wrap (numR x2 4294967295)), .int .u32 (IntKind.u32.wrap (numR x3 4294967295)), .int .i64 (K.ixS x4 resNm), .int .u32 (IntKind.u32.wrap (numR x5 4294967295)), .int .i64 (whenR x6), .int .i64 (whenR x8), .int .i64 (whenR x7), .bool false, .bool true] rfl rfl (by kernel_rfl) (by kernel_rfl) (K.cells (K.cl ((hS.blk 7 rfl hg_146).cell rfl) (K.cl ((hS.blk 7 rfl hg_146).cell rfl) (K.cl ((hS.blk 7 rfl hg_146).cell rfl) (K.cl ((hS.blk 7 rfl hg_146).cell rfl) (K.cl ((hS.blk 7 rfl hg_146).cell rfl) (K.cl ((hS.blk 7 rfl hg_146).cell rfl) (K.cl ((hS.blk 7 rfl hg_146).cell rfl) (K.cl ((hS.blk 7 rfl hg_146).cell rfl) (K.cl ((hS.blk 7 rfl hg_146).cell rfl) (K.cl ((hS.blk 7 rfl hg_146).cell rfl) (K.cl ((hS.blk 7 rfl hg_146).cell rfl) K.cl0))))))))))))) ?_
            refine K.RW.l rfl (K.OW.gst 8 [.int .i64 (numR x0 63), .int .i64 (K.ixS x1 opNm), .int .u32 (IntKind.u32.wrap (numR x2 4294967295)), .int .u32 (IntKind.u32.wrap (numR x3 4294967295)), .int .i64 (K.ixS x4 resNm), .int .u32 (IntKind.u32.wrap (numR x5 4294967295)), .int .i64 (whenR x6), .int .i64 (whenR x8), .int .i64 (whenR x7), .bool false, .bool true] [.int .i64 (numR x0 63), .int .i64 (K.ixS x1 opNm), .int .u32 (IntKind.u32.wrap (numR x2 4294967295)), .int .u32 (IntKind.u32.wrap (numR x3 4294967295)), .int .i64 (K.ixS x4 resNm), .int .u32 (IntKind.u32.wrap (numR x5 4294967295)), .int .i64 (whenR x6), .int .i64 (whenR x8), .int .i64 (whenR x7), .bool false, .bool true] hS hg_3 ?_)
            clear hS; intro w g_151 hg_152 hS
            replace hS : K.Sat w0 [gl_125, g_5, gi_129, g_21, g_26, g_79, g_44, g_145, g_151, fr] w := hS
            refine K.RW.qs [.int .i64 0] (by kernel_rfl) ?_
            refine K.RW.nil ?_
            refine K.thn_normal ?_
            refine K.KW.ret ?_
            have hB : isR (K.spl 32 l) = b_130 := by rw [hL]; exact isR_eq hb_40 hb_55 hb_65 hb_75 hb_90 hb_100 hb_112 hb_122 hb_132
            have hE := rdW_eq (x0 := x0) (x1 := x1) (x2 := x2) (x3 := x3) (x4 := x4) (x5 := x5) (x6 := x6) (x7 := x7) (x8 := x8) (x9 := x9) (p := false) (q := true) (decide_eq_false fun hh => hh h_141) (decide_eq_true h_142)
            refine ⟨.inr rfl, rfl, (.tuple #[.agg #[.int .i64 (numR x0 63), .int .i64 (K.ixS x1 opNm), .int .u32 (IntKind.u32.wrap (numR x2 4294967295)), .int .u32 (IntKind.u32.wrap (numR x3 4294967295)), .int .i64 (K.ixS x4 resNm), .int .u32 (IntKind.u32.wrap (numR x5 4294967295)), .int .i64 (whenR x6), .int .i64 (whenR x8), .int .i64 (whenR x7), .bool false, .bool true], .int .i64 0]), K.resAt (rs := [.cell 2 29, .tmp 3]) [.agg #[.int .i64 (numR x0 63), .int .i64 (K.ixS x1 opNm), .int .u32 (IntKind.u32.wrap (numR x2 4294967295)), .int .u32 (IntKind.u32.wrap (numR x3 4294967295)), .int .i64 (K.ixS x4 resNm), .int .u32 (IntKind.u32.wrap (numR x5 4294967295)), .int .i64 (whenR x6), .int .i64 (whenR x8), .int .i64 (whenR x7), .bool false, .bool true], .int .i64 0] rfl ⟨⟨_, rfl, K.lvN [.int .i64 (numR x0 63), .int .i64 (K.ixS x1 opNm), .int .u32 (IntKind.u32.wrap (numR x2 4294967295)), .int .u32 (IntKind.u32.wrap (numR x3 4294967295)), .int .i64 (K.ixS x4 resNm), .int .u32 (IntKind.u32.wrap (numR x5 4294967295)), .int .i64 (whenR x6), .int .i64 (whenR x8), .int .i64 (whenR x7), .bool false, .bool true] (by kernel_rfl) (by kernel_rfl) (K.cells (K.cl ((hS.blk 8 rfl hg_152).cell rfl) (K.cl ((hS.blk 8 rfl hg_152).cell rfl) (K.cl ((hS.blk 8 rfl hg_152).cell rfl) (K.cl ((hS.blk 8 rfl hg_152).cell rfl) (K.cl ((hS.blk 8 rfl hg_152).cell rfl) (K.cl ((hS.blk 8 rfl hg_152).cell rfl) (K.cl ((hS.blk 8 rfl hg_152).cell rfl) (K.cl ((hS.blk 8 rfl hg_152).cell rfl) (K.cl ((hS.blk 8 rfl hg_152).cell rfl) (K.cl ((hS.blk 8 rfl hg_152).cell rfl) (K.cl ((hS.blk 8 rfl hg_152).cell rfl) K.cl0))))))))))))⟩, rfl, trivial⟩, [], ?_, hS.pick [9]⟩
            exact ⟨rfl, .inl ⟨⟨by omega, hB.trans hb_147, by rw [hL, hE]; assumption⟩, by unfold readR; rw [hL, hE]; rfl⟩⟩
          ·  -- no
            refine K.DW.l 8 rfl (by kernel_rfl) (by kernel_rfl) (K.OW.q rfl (K.QR.sNe (xs := (endR (⟨(numR x0 63), (K.ixS x1 opNm), IntKind.u32.wrap (numR x2 4294967295), IntKind.u32.wrap (numR x3 4294967295), (K.ixS x4 resNm), IntKind.u32.wrap (numR x5 4294967295), (whenR x6), (whenR x8), (whenR x7), false, true⟩ : CallM))) (ys := [x9].getD 0 []) true rfl rfl rfl (K.ndeq_f h_150)) ?_)
            refine ⟨.inl (hS.pick [0, 1, 7]), ?_⟩
            refine K.DW.l 9 rfl (by kernel_rfl) rfl (K.OW.q rfl (K.QR.k (v := .bool true) (by kernel_rfl)) ?_)
            refine ⟨.inl (hS.pick [0, 1, 7]), ?_⟩
            refine K.DW.done (by kernel_rfl) ?_
            refine K.thn_normal ?_
            refine K.KW.ifT rfl ?_
            refine K.KW.seq ?_
            -- 16 :129
            refine K.KW.region ?_
            refine K.RW.q rfl rfl (K.QR.bd [] [.int .i64 0, .int .i64 0, .int .u32 0, .int .u32 0, .int .i64 0, .int .u32 0, .int .i64 0, .int .i64 0, .int .i64 0, .bool false, .bool false] rfl rfl (by kernel_rfl)) ?_
            refine K.RW.l rfl (K.OW.gst 8 [.int .i64 0, .int .i64 0, .int .u32 0, .int .u32 0, .int .i64 0, .int .u32 0, .int .i64 0, .int .i64 0, .int .i64 0, .bool false, .bool false] [.int .i64 0, .int .i64 0, .int .u32 0, .int .u32 0, .int .i64 0, .int .u32 0, .int .i64 0, .int .i64 0, .int .i64 0, .bool false, .bool false] hS hg_3 ?_)
            clear hS; intro w g_153 hg_154 hS
            replace hS : K.Sat w0 [gl_125, g_5, gi_129, g_21, g_26, g_79, g_44, g_145, g_153, fr] w := hS
            refine K.RW.qs [.int .i64 3] (by kernel_rfl) ?_
            refine K.RW.nil ?_
            refine K.thn_normal ?_
            refine K.KW.ret ?_
            refine K.thn_ret ?_
            have hB : isR (K.spl 32 l) = b_130 := by rw [hL]; exact isR_eq hb_40 hb_55 hb_65 hb_75 hb_90 hb_100 hb_112 hb_122 hb_132
            have hE := rdW_eq (x0 := x0) (x1 := x1) (x2 := x2) (x3 := x3) (x4 := x4) (x5 := x5) (x6 := x6) (x7 := x7) (x8 := x8) (x9 := x9) (p := false) (q := true) (decide_eq_false fun hh => hh h_141) (decide_eq_true h_142)
            refine ⟨.inr rfl, rfl, (.tuple #[.agg #[.int .i64 0, .int .i64 0, .int .u32 0, .int .u32 0, .int .i64 0, .int .u32 0, .int .i64 0, .int .i64 0, .int .i64 0, .bool false, .bool false], .int .i64 3]), K.resAt (rs := [.cell 2 29, .tmp 3]) [.agg #[.int .i64 0, .int .i64 0, .int .u32 0, .int .u32 0, .int .i64 0, .int .u32 0, .int .i64 0, .int .i64 0, .int .i64 0, .bool false, .bool false], .int .i64 3] rfl ⟨⟨_, rfl, K.lvN [.int .i64 0, .int .i64 0, .int .u32 0, .int .u32 0, .int .i64 0, .int .u32 0, .int .i64 0, .int .i64 0, .int .i64 0, .bool false, .bool false] (by kernel_rfl) (by kernel_rfl) (K.cells (K.cl ((hS.blk 8 rfl hg_154).cell rfl) (K.cl ((hS.blk 8 rfl hg_154).cell rfl) (K.cl ((hS.blk 8 rfl hg_154).cell rfl) (K.cl ((hS.blk 8 rfl hg_154).cell rfl) (K.cl ((hS.blk 8 rfl hg_154).cell rfl) (K.cl ((hS.blk 8 rfl hg_154).cell rfl) (K.cl ((hS.blk 8 rfl hg_154).cell rfl) (K.cl ((hS.blk 8 rfl hg_154).cell rfl) (K.cl ((hS.blk 8 rfl hg_154).cell rfl) (K.cl ((hS.blk 8 rfl hg_154).cell rfl) (K.cl ((hS.blk 8 rfl hg_154).cell rfl) K.cl0))))))))))))⟩, rfl, trivial⟩, [], ?_, hS.pick [9]⟩
            exact ⟨rfl, .inr ⟨fun hh => (by have h9 := hh.2.2; rw [hL, hE] at h9; exact absurd h9 (by assumption)), rfl⟩⟩
      ·  -- no
        refine K.DW.q 7 (by kernel_rfl) rfl rfl (by kernel_rfl) rfl (fun w hS => K.QR.sEq (xs := [x9].getD 0 []) (ys := [107, 101, 112, 116]) false rfl rfl rfl (K.deq_f h_142)) (hS.pick [0, 1]) ?_
        refine K.DW.l 8 rfl (by kernel_rfl) rfl (K.OW.q rfl (K.QR.k (v := .pointer (some ⟨r_28, 9, none⟩)) (by kernel_rfl)) ?_)
        refine ⟨.inl (hS.pick [0, 1]), ?_⟩
        refine K.DW.l 9 rfl (by kernel_rfl) rfl (K.OW.gst 7 [.bool false] [.int .i64 (numR x0 63), .int .i64 (K.ixS x1 opNm), .int .u32 (IntKind.u32.wrap (numR x2 4294967295)), .int .u32 (IntKind.u32.wrap (numR x3 4294967295)), .int .i64 (K.ixS x4 resNm), .int .u32 (IntKind.u32.wrap (numR x5 4294967295)), .int .i64 (whenR x6), .int .i64 (whenR x8), .int .i64 (whenR x7), .bool false, .bool false] hS hg_138 ?_)
        clear hS; intro w g_155 hg_156 hS
        replace hS : K.Sat w0 [gl_125, g_5, gi_129, g_21, g_26, g_79, g_44, g_155, g_2, fr] w := hS
        refine ⟨.inl (hS.pick [0, 1]), ?_⟩
        refine K.DW.l 10 rfl (by kernel_rfl) rfl (K.OW.q rfl (K.QR.k (v := .pointer (some ⟨r_28, 10, none⟩)) (by kernel_rfl)) ?_)
        refine ⟨.inl (hS.pick [0, 1]), ?_⟩
        refine K.DW.l 11 rfl (by kernel_rfl) rfl (K.OW.gst 7 [.bool false] [.int .i64 (numR x0 63), .int .i64 (K.ixS x1 opNm), .int .u32 (IntKind.u32.wrap (numR x2 4294967295)), .int .u32 (IntKind.u32.wrap (numR x3 4294967295)), .int .i64 (K.ixS x4 resNm), .int .u32 (IntKind.u32.wrap (numR x5 4294967295)), .int .i64 (whenR x6), .int .i64 (whenR x8), .int .i64 (whenR x7), .bool false, .bool false] hS hg_156 ?_)
        clear hS; intro w g_157 hg_158 hS
        replace hS : K.Sat w0 [gl_125, g_5, gi_129, g_21, g_26, g_79, g_44, g_157, g_2, fr] w := hS
        refine ⟨.inr (by kernel_rfl), ?_⟩
        refine K.DW.done (by kernel_rfl) ?_
        refine K.thn_normal ?_
        refine K.KW.seq ?_
        refine K.KW.seq ?_
        -- 15 :128
        refine K.KW.gdrawn [0, 1, 7] hS (by kernel_rfl) ?_
        clear hS; intro w hS
        refine K.DW.l 0 rfl (by kernel_rfl) rfl (K.OW.q rfl (K.QR.ld1 (v := .bool b_130) rfl rfl (by kernel_rfl) ((hS.blk 2 rfl hi_131).cell rfl)) ?_)
        refine ⟨.inl (hS.pick [0, 1, 7]), ?_⟩
        cases hb_159 : b_130
        ·
          refine K.DW.l 1 rfl (by kernel_rfl) rfl (K.OW.q rfl (K.QR.k (v := .bool true) (by kernel_rfl)) ?_)
          refine ⟨.inl (hS.pick [0, 1, 7]), ?_⟩
          refine K.DW.l 2 rfl (by kernel_rfl) rfl (K.OW.q rfl (K.QR.k (v := .bool true) (by kernel_rfl)) ?_)
          refine ⟨.inl (hS.pick [0, 1, 7]), ?_⟩
          refine K.DW.skip 3 (by kernel_rfl) rfl rfl (by kernel_rfl) (by kernel_rfl) (hS.pick [0, 1, 7]) ?_
          refine K.DW.skip 4 (by kernel_rfl) rfl rfl (by kernel_rfl) (by kernel_rfl) (hS.pick [0, 1, 7]) ?_
          refine K.DW.skip 5 (by kernel_rfl) rfl rfl (by kernel_rfl) (by kernel_rfl) (hS.pick [0, 1, 7]) ?_
          refine K.DW.skip 6 (by kernel_rfl) rfl rfl (by kernel_rfl) (by kernel_rfl) (hS.pick [0, 1, 7]) ?_
          refine K.DW.skip 7 (by kernel_rfl) rfl rfl (by kernel_rfl) (by kernel_rfl) (hS.pick [0, 1, 7]) ?_
          refine K.DW.skip 8 (by kernel_rfl) rfl rfl (by kernel_rfl) (by kernel_rfl) (hS.pick [0, 1, 7]) ?_
          refine K.DW.l 9 rfl (by kernel_rfl) rfl (K.OW.q rfl (K.QR.k (v := .bool true) (by kernel_rfl)) ?_)
          refine ⟨.inl (hS.pick [0, 1, 7]), ?_⟩
          refine K.DW.done (by kernel_rfl) ?_
          refine K.thn_normal ?_
          refine K.KW.ifT rfl ?_
          refine K.KW.seq ?_
          -- 16 :129
          refine K.KW.region ?_
          refine K.RW.q rfl rfl (K.QR.bd [] [.int .i64 0, .int .i64 0, .int .u32 0, .int .u32 0, .int .i64 0, .int .u32 0, .int .i64 0, .int .i64 0, .int .i64 0, .bool false, .bool false] rfl rfl (by kernel_rfl)) ?_
          refine K.RW.l rfl (K.OW.gst 8 [.int .i64 0, .int .i64 0, .int .u32 0, .int .u32 0, .int .i64 0, .int .u32 0, .int .i64 0, .int .i64 0, .int .i64 0, .bool false, .bool false] [.int .i64 0, .int .i64 0, .int .u32 0, .int .u32 0, .int .i64 0, .int .u32 0, .int .i64 0, .int .i64 0, .int .i64 0, .bool false, .bool false] hS hg_3 ?_)
          clear hS; intro w g_160 hg_161 hS
          replace hS : K.Sat w0 [gl_125, g_5, gi_129, g_21, g_26, g_79, g_44, g_157, g_160, fr] w := hS
          refine K.RW.qs [.int .i64 3] (by kernel_rfl) ?_
          refine K.RW.nil ?_
          refine K.thn_normal ?_
          refine K.KW.ret ?_
          refine K.thn_ret ?_
          have hB : isR (K.spl 32 l) = b_130 := by rw [hL]; exact isR_eq hb_40 hb_55 hb_65 hb_75 hb_90 hb_100 hb_112 hb_122 hb_132
          have hE := rdW_eq (x0 := x0) (x1 := x1) (x2 := x2) (x3 := x3) (x4 := x4) (x5 := x5) (x6 := x6) (x7 := x7) (x8 := x8) (x9 := x9) (p := false) (q := false) (decide_eq_false fun hh => hh h_141) (decide_eq_false h_142)
          refine ⟨.inr rfl, rfl, (.tuple #[.agg #[.int .i64 0, .int .i64 0, .int .u32 0, .int .u32 0, .int .i64 0, .int .u32 0, .int .i64 0, .int .i64 0, .int .i64 0, .bool false, .bool false], .int .i64 3]), K.resAt (rs := [.cell 2 29, .tmp 3]) [.agg #[.int .i64 0, .int .i64 0, .int .u32 0, .int .u32 0, .int .i64 0, .int .u32 0, .int .i64 0, .int .i64 0, .int .i64 0, .bool false, .bool false], .int .i64 3] rfl ⟨⟨_, rfl, K.lvN [.int .i64 0, .int .i64 0, .int .u32 0, .int .u32 0, .int .i64 0, .int .u32 0, .int .i64 0, .int .i64 0, .int .i64 0, .bool false, .bool false] (by kernel_rfl) (by kernel_rfl) (K.cells (K.cl ((hS.blk 8 rfl hg_161).cell rfl) (K.cl ((hS.blk 8 rfl hg_161).cell rfl) (K.cl ((hS.blk 8 rfl hg_161).cell rfl) (K.cl ((hS.blk 8 rfl hg_161).cell rfl) (K.cl ((hS.blk 8 rfl hg_161).cell rfl) (K.cl ((hS.blk 8 rfl hg_161).cell rfl) (K.cl ((hS.blk 8 rfl hg_161).cell rfl) (K.cl ((hS.blk 8 rfl hg_161).cell rfl) (K.cl ((hS.blk 8 rfl hg_161).cell rfl) (K.cl ((hS.blk 8 rfl hg_161).cell rfl) (K.cl ((hS.blk 8 rfl hg_161).cell rfl) K.cl0))))))))))))⟩, rfl, trivial⟩, [], ?_, hS.pick [9]⟩
          exact ⟨rfl, .inr ⟨fun hh => (by cases (hB.trans hb_159).symm.trans hh.2.1), rfl⟩⟩
        ·
          refine K.DW.l 1 rfl (by kernel_rfl) rfl (K.OW.q rfl (K.QR.k (v := .bool false) (by kernel_rfl)) ?_)
          refine ⟨.inl (hS.pick [0, 1, 7]), ?_⟩
          refine K.DW.l 2 rfl (by kernel_rfl) rfl (K.OW.q rfl (K.QR.k (v := .bool false) (by kernel_rfl)) ?_)
          refine ⟨.inl (hS.pick [0, 1, 7]), ?_⟩
          refine K.DW.q 3 (by kernel_rfl) rfl rfl (by kernel_rfl) (by kernel_rfl) (fun w hS => K.QR.ldN [.int .i64 (numR x0 63), .int .i64 (K.ixS x1 opNm), .int .u32 (IntKind.u32.wrap (numR x2 4294967295)), .int .u32 (IntKind.u32.wrap (numR x3 4294967295)), .int .i64 (K.ixS x4 resNm), .int .u32 (IntKind.u32.wrap (numR x5 4294967295)), .int .i64 (whenR x6), .int .i64 (whenR x8), .int .i64 (whenR x7), .bool false, .bool false] rfl rfl (by kernel_rfl) (by kernel_rfl) (K.cells (K.cl ((hS.blk 2 rfl hg_158).cell rfl) (K.cl ((hS.blk 2 rfl hg_158).cell rfl) (K.cl ((hS.blk 2 rfl hg_158).cell rfl) (K.cl ((hS.blk 2 rfl hg_158).cell rfl) (K.cl ((hS.blk 2 rfl hg_158).cell rfl) (K.cl ((hS.blk 2 rfl hg_158).cell rfl) (K.cl ((hS.blk 2 rfl hg_158).cell rfl) (K.cl ((hS.blk 2 rfl hg_158).cell rfl) (K.cl ((hS.blk 2 rfl hg_158).cell rfl) (K.cl ((hS.blk 2 rfl hg_158).cell rfl) (K.cl ((hS.blk 2 rfl hg_158).cell rfl) K.cl0))))))))))))) (hS.pick [0, 1, 7]) ?_
          refine K.DW.q 5 (by kernel_rfl) rfl rfl (by kernel_rfl) (by kernel_rfl) (fun w hS => K.QR.ld1 (v := .slice (some ⟨b_139, of_140, none⟩) ([x9].length) cap_124) rfl rfl (by kernel_rfl) ((hS.blk 0 rfl hl_126).cell rfl)) (hS.pick [0, 1, 7]) ?_
          refine K.DW.q 6 (by kernel_rfl) rfl rfl (by kernel_rfl) (by kernel_rfl) (fun w hS => K.QR.ix (of_140 + 0 * 1) 1 rfl rfl rfl Tryd.underlying68 (by kernel_rfl) (by omega) (by first | (simp; done) | omega | (simp; omega))) (hS.pick [0, 1, 7]) ?_
          refine K.DW.q 7 (by kernel_rfl) rfl rfl (by kernel_rfl) (by kernel_rfl) (fun w hS => K.QR.ld1 (v := .string (K.sb ([x9].getD 0 []))) rfl rfl (by kernel_rfl) ((hx_128 _ (hS.pick [1])).ld 0 (by omega) 0 _ rfl)) (hS.pick [0, 1, 7]) ?_
          refine K.DW.l 4 rfl (by kernel_rfl) (by kernel_rfl) (K.OW.gcall hS [] [0, 1, 2, 3, 4, 5, 6, 7, 8, 9] [.agg #[.int .i64 (numR x0 63), .int .i64 (K.ixS x1 opNm), .int .u32 (IntKind.u32.wrap (numR x2 4294967295)), .int .u32 (IntKind.u32.wrap (numR x3 4294967295)), .int .i64 (K.ixS x4 resNm), .int .u32 (IntKind.u32.wrap (numR x5 4294967295)), .int .i64 (whenR x6), .int .i64 (whenR x8), .int .i64 (whenR x7), .bool false, .bool false]] (ending_ok _ (⟨(numR x0 63), (K.ixS x1 opNm), IntKind.u32.wrap (numR x2 4294967295), IntKind.u32.wrap (numR x3 4294967295), (K.ixS x4 resNm), IntKind.u32.wrap (numR x5 4294967295), (whenR x6), (whenR x8), (whenR x7), false, false⟩ : CallM)) ?_)
          clear hS; rintro _ _ w ⟨rfl, rfl⟩ hS
          replace hS : K.Sat w0 [gl_125, g_5, gi_129, g_21, g_26, g_79, g_44, g_157, g_2, fr] w := hS
          refine ⟨.inl (hS.pick [0, 1, 7]), ?_⟩
          by_cases h_162 : (endR (⟨(numR x0 63), (K.ixS x1 opNm), IntKind.u32.wrap (numR x2 4294967295), IntKind.u32.wrap (numR x3 4294967295), (K.ixS x4 resNm), IntKind.u32.wrap (numR x5 4294967295), (whenR x6), (whenR x8), (whenR x7), false, false⟩ : CallM)) = ([x9].getD 0 [])
          ·  -- yes
            refine K.DW.l 8 rfl (by kernel_rfl) (by kernel_rfl) (K.OW.q rfl (K.QR.sNe (xs := (endR (⟨(numR x0 63), (K.ixS x1 opNm), IntKind.u32.wrap (numR x2 4294967295), IntKind.u32.wrap (numR x3 4294967295), (K.ixS x4 resNm), IntKind.u32.wrap (numR x5 4294967295), (whenR x6), (whenR x8), (whenR x7), false, false⟩ : CallM))) (ys := [x9].getD 0 []) false rfl rfl rfl (K.ndeq_t h_162)) ?_)
            refine ⟨.inl (hS.pick [0, 1, 7]), ?_⟩
            refine K.DW.l 9 rfl (by kernel_rfl) rfl (K.OW.q rfl (K.QR.k (v := .bool false) (by kernel_rfl)) ?_)
            refine ⟨.inl (hS.pick [0, 1, 7]), ?_⟩
            refine K.DW.done (by kernel_rfl) ?_
            refine K.thn_normal ?_
            refine K.KW.ifF rfl ?_
            refine K.KW.skip ?_
            refine K.thn_normal ?_
            refine K.KW.seq ?_
            -- 17 :131
            refine K.KW.region ?_
            refine K.RW.q rfl rfl (K.QR.ldN [.int .i64 (numR x0 63), .int .i64 (K.ixS x1 opNm), .int .u32 (IntKind.u32.wrap (numR x2 4294967295)), .int .u32 (IntKind.u32.wrap (numR x3 4294967295)), .int .i64 (K.ixS x4 resNm), .int .u32 (IntKind.u32.wrap (numR x5 4294967295)), .int .i64 (whenR x6), .int .i64 (whenR x8), .int .i64 (whenR x7), .bool false, .bool false] rfl rfl (by kernel_rfl) (by kernel_rfl) (K.cells (K.cl ((hS.blk 7 rfl hg_158).cell rfl) (K.cl ((hS.blk 7 rfl hg_158).cell rfl) (K.cl ((hS.blk 7 rfl hg_158).cell rfl) (K.cl ((hS.blk 7 rfl hg_158).cell rfl) (K.cl ((hS.blk 7 rfl hg_158).cell rfl) (K.cl ((hS.blk 7 rfl hg_158).cell rfl) (K.cl ((hS.blk 7 rfl hg_158).cell rfl) (K.cl ((hS.blk 7 rfl hg_158).cell rfl) (K.cl ((hS.blk 7 rfl hg_158).cell rfl) (K.cl ((hS.blk 7 rfl hg_158).cell rfl) (K.cl ((hS.blk 7 rfl hg_158).cell rfl) K.cl0))))))))))))) ?_
            refine K.RW.l rfl (K.OW.gst 8 [.int .i64 (numR x0 63), .int .i64 (K.ixS x1 opNm), .int .u32 (IntKind.u32.wrap (numR x2 4294967295)), .int .u32 (IntKind.u32.wrap (numR x3 4294967295)), .int .i64 (K.ixS x4 resNm), .int .u32 (IntKind.u32.wrap (numR x5 4294967295)), .int .i64 (whenR x6), .int .i64 (whenR x8), .int .i64 (whenR x7), .bool false, .bool false] [.int .i64 (numR x0 63), .int .i64 (K.ixS x1 opNm), .int .u32 (IntKind.u32.wrap (numR x2 4294967295)), .int .u32 (IntKind.u32.wrap (numR x3 4294967295)), .int .i64 (K.ixS x4 resNm), .int .u32 (IntKind.u32.wrap (numR x5 4294967295)), .int .i64 (whenR x6), .int .i64 (whenR x8), .int .i64 (whenR x7), .bool false, .bool false] hS hg_3 ?_)
            clear hS; intro w g_163 hg_164 hS
            replace hS : K.Sat w0 [gl_125, g_5, gi_129, g_21, g_26, g_79, g_44, g_157, g_163, fr] w := hS
            refine K.RW.qs [.int .i64 0] (by kernel_rfl) ?_
            refine K.RW.nil ?_
            refine K.thn_normal ?_
            refine K.KW.ret ?_
            have hB : isR (K.spl 32 l) = b_130 := by rw [hL]; exact isR_eq hb_40 hb_55 hb_65 hb_75 hb_90 hb_100 hb_112 hb_122 hb_132
            have hE := rdW_eq (x0 := x0) (x1 := x1) (x2 := x2) (x3 := x3) (x4 := x4) (x5 := x5) (x6 := x6) (x7 := x7) (x8 := x8) (x9 := x9) (p := false) (q := false) (decide_eq_false fun hh => hh h_141) (decide_eq_false h_142)
            refine ⟨.inr rfl, rfl, (.tuple #[.agg #[.int .i64 (numR x0 63), .int .i64 (K.ixS x1 opNm), .int .u32 (IntKind.u32.wrap (numR x2 4294967295)), .int .u32 (IntKind.u32.wrap (numR x3 4294967295)), .int .i64 (K.ixS x4 resNm), .int .u32 (IntKind.u32.wrap (numR x5 4294967295)), .int .i64 (whenR x6), .int .i64 (whenR x8), .int .i64 (whenR x7), .bool false, .bool false], .int .i64 0]), K.resAt (rs := [.cell 2 29, .tmp 3]) [.agg #[.int .i64 (numR x0 63), .int .i64 (K.ixS x1 opNm), .int .u32 (IntKind.u32.wrap (numR x2 4294967295)), .int .u32 (IntKind.u32.wrap (numR x3 4294967295)), .int .i64 (K.ixS x4 resNm), .int .u32 (IntKind.u32.wrap (numR x5 4294967295)), .int .i64 (whenR x6), .int .i64 (whenR x8), .int .i64 (whenR x7), .bool false, .bool false], .int .i64 0] rfl ⟨⟨_, rfl, K.lvN [.int .i64 (numR x0 63), .int .i64 (K.ixS x1 opNm), .int .u32 (IntKind.u32.wrap (numR x2 4294967295)), .int .u32 (IntKind.u32.wrap (numR x3 4294967295)), .int .i64 (K.ixS x4 resNm), .int .u32 (IntKind.u32.wrap (numR x5 4294967295)), .int .i64 (whenR x6), .int .i64 (whenR x8), .int .i64 (whenR x7), .bool false, .bool false] (by kernel_rfl) (by kernel_rfl) (K.cells (K.cl ((hS.blk 8 rfl hg_164).cell rfl) (K.cl ((hS.blk 8 rfl hg_164).cell rfl) (K.cl ((hS.blk 8 rfl hg_164).cell rfl) (K.cl ((hS.blk 8 rfl hg_164).cell rfl) (K.cl ((hS.blk 8 rfl hg_164).cell rfl) (K.cl ((hS.blk 8 rfl hg_164).cell rfl) (K.cl ((hS.blk 8 rfl hg_164).cell rfl) (K.cl ((hS.blk 8 rfl hg_164).cell rfl) (K.cl ((hS.blk 8 rfl hg_164).cell rfl) (K.cl ((hS.blk 8 rfl hg_164).cell rfl) (K.cl ((hS.blk 8 rfl hg_164).cell rfl) K.cl0))))))))))))⟩, rfl, trivial⟩, [], ?_, hS.pick [9]⟩
            exact ⟨rfl, .inl ⟨⟨by omega, hB.trans hb_159, by rw [hL, hE]; assumption⟩, by unfold readR; rw [hL, hE]; rfl⟩⟩
          ·  -- no
            refine K.DW.l 8 rfl (by kernel_rfl) (by kernel_rfl) (K.OW.q rfl (K.QR.sNe (xs := (endR (⟨(numR x0 63), (K.ixS x1 opNm), IntKind.u32.wrap (numR x2 4294967295), IntKind.u32.wrap (numR x3 4294967295), (K.ixS x4 resNm), IntKind.u32.wrap (numR x5 4294967295), (whenR x6), (whenR x8), (whenR x7), false, false⟩ : CallM))) (ys := [x9].getD 0 []) true rfl rfl rfl (K.ndeq_f h_162)) ?_)
            refine ⟨.inl (hS.pick [0, 1, 7]), ?_⟩
            refine K.DW.l 9 rfl (by kernel_rfl) rfl (K.OW.q rfl (K.QR.k (v := .bool true) (by kernel_rfl)) ?_)
            refine ⟨.inl (hS.pick [0, 1, 7]), ?_⟩
            refine K.DW.done (by kernel_rfl) ?_
            refine K.thn_normal ?_
            refine K.KW.ifT rfl ?_
            refine K.KW.seq ?_
            -- 16 :129
            refine K.KW.region ?_
            refine K.RW.q rfl rfl (K.QR.bd [] [.int .i64 0, .int .i64 0, .int .u32 0, .int .u32 0, .int .i64 0, .int .u32 0, .int .i64 0, .int .i64 0, .int .i64 0, .bool false, .bool false] rfl rfl (by kernel_rfl)) ?_
            refine K.RW.l rfl (K.OW.gst 8 [.int .i64 0, .int .i64 0, .int .u32 0, .int .u32 0, .int .i64 0, .int .u32 0, .int .i64 0, .int .i64 0, .int .i64 0, .bool false, .bool false] [.int .i64 0, .int .i64 0, .int .u32 0, .int .u32 0, .int .i64 0, .int .u32 0, .int .i64 0, .int .i64 0, .int .i64 0, .bool false, .bool false] hS hg_3 ?_)
            clear hS; intro w g_165 hg_166 hS
            replace hS : K.Sat w0 [gl_125, g_5, gi_129, g_21, g_26, g_79, g_44, g_157, g_165, fr] w := hS
            refine K.RW.qs [.int .i64 3] (by kernel_rfl) ?_
            refine K.RW.nil ?_
            refine K.thn_normal ?_
            refine K.KW.ret ?_
            refine K.thn_ret ?_
            have hB : isR (K.spl 32 l) = b_130 := by rw [hL]; exact isR_eq hb_40 hb_55 hb_65 hb_75 hb_90 hb_100 hb_112 hb_122 hb_132
            have hE := rdW_eq (x0 := x0) (x1 := x1) (x2 := x2) (x3 := x3) (x4 := x4) (x5 := x5) (x6 := x6) (x7 := x7) (x8 := x8) (x9 := x9) (p := false) (q := false) (decide_eq_false fun hh => hh h_141) (decide_eq_false h_142)
            refine ⟨.inr rfl, rfl, (.tuple #[.agg #[.int .i64 0, .int .i64 0, .int .u32 0, .int .u32 0, .int .i64 0, .int .u32 0, .int .i64 0, .int .i64 0, .int .i64 0, .bool false, .bool false], .int .i64 3]), K.resAt (rs := [.cell 2 29, .tmp 3]) [.agg #[.int .i64 0, .int .i64 0, .int .u32 0, .int .u32 0, .int .i64 0, .int .u32 0, .int .i64 0, .int .i64 0, .int .i64 0, .bool false, .bool false], .int .i64 3] rfl ⟨⟨_, rfl, K.lvN [.int .i64 0, .int .i64 0, .int .u32 0, .int .u32 0, .int .i64 0, .int .u32 0, .int .i64 0, .int .i64 0, .int .i64 0, .bool false, .bool false] (by kernel_rfl) (by kernel_rfl) (K.cells (K.cl ((hS.blk 8 rfl hg_166).cell rfl) (K.cl ((hS.blk 8 rfl hg_166).cell rfl) (K.cl ((hS.blk 8 rfl hg_166).cell rfl) (K.cl ((hS.blk 8 rfl hg_166).cell rfl) (K.cl ((hS.blk 8 rfl hg_166).cell rfl) (K.cl ((hS.blk 8 rfl hg_166).cell rfl) (K.cl ((hS.blk 8 rfl hg_166).cell rfl) (K.cl ((hS.blk 8 rfl hg_166).cell rfl) (K.cl ((hS.blk 8 rfl hg_166).cell rfl) (K.cl ((hS.blk 8 rfl hg_166).cell rfl) (K.cl ((hS.blk 8 rfl hg_166).cell rfl) K.cl0))))))))))))⟩, rfl, trivial⟩, [], ?_, hS.pick [9]⟩
            exact ⟨rfl, .inr ⟨fun hh => (by have h9 := hh.2.2; rw [hL, hE] at h9; exact absurd h9 (by assumption)), rfl⟩⟩
    ·  -- no
      refine K.DW.q 3 (by kernel_rfl) rfl rfl (by kernel_rfl) rfl (fun w hS => K.QR.sNe (xs := [x9].getD 0 []) (ys := [45]) true rfl rfl rfl (K.ndeq_f h_141)) (hS.pick [0, 1]) ?_
      refine K.DW.q 4 (by kernel_rfl) rfl rfl (by kernel_rfl) rfl (fun w hS => K.QR.ld1 (v := .slice (some ⟨b_139, of_140, none⟩) ([x9].length) cap_124) rfl rfl (by kernel_rfl) ((hS.blk 0 rfl hl_126).cell rfl)) (hS.pick [0, 1]) ?_
      refine K.DW.q 5 (by kernel_rfl) rfl rfl (by kernel_rfl) rfl (fun w hS => K.QR.ix (of_140 + 0 * 1) 1 rfl rfl rfl Tryd.underlying68 (by kernel_rfl) (by omega) (by first | (simp; done) | omega | (simp; omega))) (hS.pick [0, 1]) ?_
      refine K.DW.q 6 (by kernel_rfl) rfl rfl (by kernel_rfl) rfl (fun w hS => K.QR.ld1 (v := .string (K.sb ([x9].getD 0 []))) rfl rfl (by kernel_rfl) ((hx_128 _ (hS.pick [1])).ld 0 (by omega) 0 _ rfl)) (hS.pick [0, 1]) ?_
      by_cases h_167 : ([x9].getD 0 []) = ([107, 101, 112, 116] : List UInt8)
      ·  -- yes
        refine K.DW.q 7 (by kernel_rfl) rfl rfl (by kernel_rfl) rfl (fun w hS => K.QR.sEq (xs := [x9].getD 0 []) (ys := [107, 101, 112, 116]) true rfl rfl rfl (K.deq_t h_167)) (hS.pick [0, 1]) ?_
        refine K.DW.l 8 rfl (by kernel_rfl) rfl (K.OW.q rfl (K.QR.k (v := .pointer (some ⟨r_28, 9, none⟩)) (by kernel_rfl)) ?_)
        refine ⟨.inl (hS.pick [0, 1]), ?_⟩
        refine K.DW.l 9 rfl (by kernel_rfl) rfl (K.OW.gst 7 [.bool true] [.int .i64 (numR x0 63), .int .i64 (K.ixS x1 opNm), .int .u32 (IntKind.u32.wrap (numR x2 4294967295)), .int .u32 (IntKind.u32.wrap (numR x3 4294967295)), .int .i64 (K.ixS x4 resNm), .int .u32 (IntKind.u32.wrap (numR x5 4294967295)), .int .i64 (whenR x6), .int .i64 (whenR x8), .int .i64 (whenR x7), .bool true, .bool false] hS hg_138 ?_)
        clear hS; intro w g_168 hg_169 hS
        replace hS : K.Sat w0 [gl_125, g_5, gi_129, g_21, g_26, g_79, g_44, g_168, g_2, fr] w := hS
        refine ⟨.inl (hS.pick [0, 1]), ?_⟩
        refine K.DW.l 10 rfl (by kernel_rfl) rfl (K.OW.q rfl (K.QR.k (v := .pointer (some ⟨r_28, 10, none⟩)) (by kernel_rfl)) ?_)
        refine ⟨.inl (hS.pick [0, 1]), ?_⟩
        refine K.DW.l 11 rfl (by kernel_rfl) rfl (K.OW.gst 7 [.bool true] [.int .i64 (numR x0 63), .int .i64 (K.ixS x1 opNm), .int .u32 (IntKind.u32.wrap (numR x2 4294967295)), .int .u32 (IntKind.u32.wrap (numR x3 4294967295)), .int .i64 (K.ixS x4 resNm), .int .u32 (IntKind.u32.wrap (numR x5 4294967295)), .int .i64 (whenR x6), .int .i64 (whenR x8), .int .i64 (whenR x7), .bool true, .bool true] hS hg_169 ?_)
        clear hS; intro w g_170 hg_171 hS
        replace hS : K.Sat w0 [gl_125, g_5, gi_129, g_21, g_26, g_79, g_44, g_170, g_2, fr] w := hS
        refine ⟨.inr (by kernel_rfl), ?_⟩
        refine K.DW.done (by kernel_rfl) ?_
        refine K.thn_normal ?_
        refine K.KW.seq ?_
        refine K.KW.seq ?_
        -- 15 :128
        refine K.KW.gdrawn [0, 1, 7] hS (by kernel_rfl) ?_
        clear hS; intro w hS
        refine K.DW.l 0 rfl (by kernel_rfl) rfl (K.OW.q rfl (K.QR.ld1 (v := .bool b_130) rfl rfl (by kernel_rfl) ((hS.blk 2 rfl hi_131).cell rfl)) ?_)
        refine ⟨.inl (hS.pick [0, 1, 7]), ?_⟩
        cases hb_172 : b_130
        ·
          refine K.DW.l 1 rfl (by kernel_rfl) rfl (K.OW.q rfl (K.QR.k (v := .bool true) (by kernel_rfl)) ?_)
          refine ⟨.inl (hS.pick [0, 1, 7]), ?_⟩
          refine K.DW.l 2 rfl (by kernel_rfl) rfl (K.OW.q rfl (K.QR.k (v := .bool true) (by kernel_rfl)) ?_)
          refine ⟨.inl (hS.pick [0, 1, 7]), ?_⟩
          refine K.DW.skip 3 (by kernel_rfl) rfl rfl (by kernel_rfl) (by kernel_rfl) (hS.pick [0, 1, 7]) ?_
          refine K.DW.skip 4 (by kernel_rfl) rfl rfl (by kernel_rfl) (by kernel_rfl) (hS.pick [0, 1, 7]) ?_
          refine K.DW.skip 5 (by kernel_rfl) rfl rfl (by kernel_rfl) (by kernel_rfl) (hS.pick [0, 1, 7]) ?_
          refine K.DW.skip 6 (by kernel_rfl) rfl rfl (by kernel_rfl) (by kernel_rfl) (hS.pick [0, 1, 7]) ?_
          refine K.DW.skip 7 (by kernel_rfl) rfl rfl (by kernel_rfl) (by kernel_rfl) (hS.pick [0, 1, 7]) ?_
          refine K.DW.skip 8 (by kernel_rfl) rfl rfl (by kernel_rfl) (by kernel_rfl) (hS.pick [0, 1, 7]) ?_
          refine K.DW.l 9 rfl (by kernel_rfl) rfl (K.OW.q rfl (K.QR.k (v := .bool true) (by kernel_rfl)) ?_)
          refine ⟨.inl (hS.pick [0, 1, 7]), ?_⟩
          refine K.DW.done (by kernel_rfl) ?_
          refine K.thn_normal ?_
          refine K.KW.ifT rfl ?_
          refine K.KW.seq ?_
          -- 16 :129
          refine K.KW.region ?_
          refine K.RW.q rfl rfl (K.QR.bd [] [.int .i64 0, .int .i64 0, .int .u32 0, .int .u32 0, .int .i64 0, .int .u32 0, .int .i64 0, .int .i64 0, .int .i64 0, .bool false, .bool false] rfl rfl (by kernel_rfl)) ?_
          refine K.RW.l rfl (K.OW.gst 8 [.int .i64 0, .int .i64 0, .int .u32 0, .int .u32 0, .int .i64 0, .int .u32 0, .int .i64 0, .int .i64 0, .int .i64 0, .bool false, .bool false] [.int .i64 0, .int .i64 0, .int .u32 0, .int .u32 0, .int .i64 0, .int .u32 0, .int .i64 0, .int .i64 0, .int .i64 0, .bool false, .bool false] hS hg_3 ?_)
          clear hS; intro w g_173 hg_174 hS
          replace hS : K.Sat w0 [gl_125, g_5, gi_129, g_21, g_26, g_79, g_44, g_170, g_173, fr] w := hS
          refine K.RW.qs [.int .i64 3] (by kernel_rfl) ?_
          refine K.RW.nil ?_
          refine K.thn_normal ?_
          refine K.KW.ret ?_
          refine K.thn_ret ?_
          have hB : isR (K.spl 32 l) = b_130 := by rw [hL]; exact isR_eq hb_40 hb_55 hb_65 hb_75 hb_90 hb_100 hb_112 hb_122 hb_132
          have hE := rdW_eq (x0 := x0) (x1 := x1) (x2 := x2) (x3 := x3) (x4 := x4) (x5 := x5) (x6 := x6) (x7 := x7) (x8 := x8) (x9 := x9) (p := true) (q := true) (decide_eq_true h_141) (decide_eq_true h_167)
          refine ⟨.inr rfl, rfl, (.tuple #[.agg #[.int .i64 0, .int .i64 0, .int .u32 0, .int .u32 0, .int .i64 0, .int .u32 0, .int .i64 0, .int .i64 0, .int .i64 0, .bool false, .bool false], .int .i64 3]), K.resAt (rs := [.cell 2 29, .tmp 3]) [.agg #[.int .i64 0, .int .i64 0, .int .u32 0, .int .u32 0, .int .i64 0, .int .u32 0, .int .i64 0, .int .i64 0, .int .i64 0, .bool false, .bool false], .int .i64 3] rfl ⟨⟨_, rfl, K.lvN [.int .i64 0, .int .i64 0, .int .u32 0, .int .u32 0, .int .i64 0, .int .u32 0, .int .i64 0, .int .i64 0, .int .i64 0, .bool false, .bool false] (by kernel_rfl) (by kernel_rfl) (K.cells (K.cl ((hS.blk 8 rfl hg_174).cell rfl) (K.cl ((hS.blk 8 rfl hg_174).cell rfl) (K.cl ((hS.blk 8 rfl hg_174).cell rfl) (K.cl ((hS.blk 8 rfl hg_174).cell rfl) (K.cl ((hS.blk 8 rfl hg_174).cell rfl) (K.cl ((hS.blk 8 rfl hg_174).cell rfl) (K.cl ((hS.blk 8 rfl hg_174).cell rfl) (K.cl ((hS.blk 8 rfl hg_174).cell rfl) (K.cl ((hS.blk 8 rfl hg_174).cell rfl) (K.cl ((hS.blk 8 rfl hg_174).cell rfl) (K.cl ((hS.blk 8 rfl hg_174).cell rfl) K.cl0))))))))))))⟩, rfl, trivial⟩, [], ?_, hS.pick [9]⟩
          exact ⟨rfl, .inr ⟨fun hh => (by cases (hB.trans hb_172).symm.trans hh.2.1), rfl⟩⟩
        ·
          refine K.DW.l 1 rfl (by kernel_rfl) rfl (K.OW.q rfl (K.QR.k (v := .bool false) (by kernel_rfl)) ?_)
          refine ⟨.inl (hS.pick [0, 1, 7]), ?_⟩
          refine K.DW.l 2 rfl (by kernel_rfl) rfl (K.OW.q rfl (K.QR.k (v := .bool false) (by kernel_rfl)) ?_)
          refine ⟨.inl (hS.pick [0, 1, 7]), ?_⟩
          refine K.DW.q 3 (by kernel_rfl) rfl rfl (by kernel_rfl) (by kernel_rfl) (fun w hS => K.QR.ldN [.int .i64 (numR x0 63), .int .i64 (K.ixS x1 opNm), .int .u32 (IntKind.u32.wrap (numR x2 4294967295)), .int .u32 (IntKind.u32.wrap (numR x3 4294967295)), .int .i64 (K.ixS x4 resNm), .int .u32 (IntKind.u32.wrap (numR x5 4294967295)), .int .i64 (whenR x6), .int .i64 (whenR x8), .int .i64 (whenR x7), .bool true, .bool true] rfl rfl (by kernel_rfl) (by kernel_rfl) (K.cells (K.cl ((hS.blk 2 rfl hg_171).cell rfl) (K.cl ((hS.blk 2 rfl hg_171).cell rfl) (K.cl ((hS.blk 2 rfl hg_171).cell rfl) (K.cl ((hS.blk 2 rfl hg_171).cell rfl) (K.cl ((hS.blk 2 rfl hg_171).cell rfl) (K.cl ((hS.blk 2 rfl hg_171).cell rfl) (K.cl ((hS.blk 2 rfl hg_171).cell rfl) (K.cl ((hS.blk 2 rfl hg_171).cell rfl) (K.cl ((hS.blk 2 rfl hg_171).cell rfl) (K.cl ((hS.blk 2 rfl hg_171).cell rfl) (K.cl ((hS.blk 2 rfl hg_171).cell rfl) K.cl0))))))))))))) (hS.pick [0, 1, 7]) ?_
          refine K.DW.q 5 (by kernel_rfl) rfl rfl (by kernel_rfl) (by kernel_rfl) (fun w hS => K.QR.ld1 (v := .slice (some ⟨b_139, of_140, none⟩) ([x9].length) cap_124) rfl rfl (by kernel_rfl) ((hS.blk 0 rfl hl_126).cell rfl)) (hS.pick [0, 1, 7]) ?_
          refine K.DW.q 6 (by kernel_rfl) rfl rfl (by kernel_rfl) (by kernel_rfl) (fun w hS => K.QR.ix (of_140 + 0 * 1) 1 rfl rfl rfl Tryd.underlying68 (by kernel_rfl) (by omega) (by first | (simp; done) | omega | (simp; omega))) (hS.pick [0, 1, 7]) ?_
          refine K.DW.q 7 (by kernel_rfl) rfl rfl (by kernel_rfl) (by kernel_rfl) (fun w hS => K.QR.ld1 (v := .string (K.sb ([x9].getD 0 []))) rfl rfl (by kernel_rfl) ((hx_128 _ (hS.pick [1])).ld 0 (by omega) 0 _ rfl)) (hS.pick [0, 1, 7]) ?_
          refine K.DW.l 4 rfl (by kernel_rfl) (by kernel_rfl) (K.OW.gcall hS [] [0, 1, 2, 3, 4, 5, 6, 7, 8, 9] [.agg #[.int .i64 (numR x0 63), .int .i64 (K.ixS x1 opNm), .int .u32 (IntKind.u32.wrap (numR x2 4294967295)), .int .u32 (IntKind.u32.wrap (numR x3 4294967295)), .int .i64 (K.ixS x4 resNm), .int .u32 (IntKind.u32.wrap (numR x5 4294967295)), .int .i64 (whenR x6), .int .i64 (whenR x8), .int .i64 (whenR x7), .bool true, .bool true]] (ending_ok _ (⟨(numR x0 63), (K.ixS x1 opNm), IntKind.u32.wrap (numR x2 4294967295), IntKind.u32.wrap (numR x3 4294967295), (K.ixS x4 resNm), IntKind.u32.wrap (numR x5 4294967295), (whenR x6), (whenR x8), (whenR x7), true, true⟩ : CallM)) ?_)
          clear hS; rintro _ _ w ⟨rfl, rfl⟩ hS
          replace hS : K.Sat w0 [gl_125, g_5, gi_129, g_21, g_26, g_79, g_44, g_170, g_2, fr] w := hS
          refine ⟨.inl (hS.pick [0, 1, 7]), ?_⟩
          by_cases h_175 : (endR (⟨(numR x0 63), (K.ixS x1 opNm), IntKind.u32.wrap (numR x2 4294967295), IntKind.u32.wrap (numR x3 4294967295), (K.ixS x4 resNm), IntKind.u32.wrap (numR x5 4294967295), (whenR x6), (whenR x8), (whenR x7), true, true⟩ : CallM)) = ([x9].getD 0 [])
          ·  -- yes
            refine K.DW.l 8 rfl (by kernel_rfl) (by kernel_rfl) (K.OW.q rfl (K.QR.sNe (xs := (endR (⟨(numR x0 63), (K.ixS x1 opNm), IntKind.u32.wrap (numR x2 4294967295), IntKind.u32.wrap (numR x3 4294967295), (K.ixS x4 resNm), IntKind.u32.wrap (numR x5 4294967295), (whenR x6), (whenR x8), (whenR x7), true, true⟩ : CallM))) (ys := [x9].getD 0 []) false rfl rfl rfl (K.ndeq_t h_175)) ?_)
            refine ⟨.inl (hS.pick [0, 1, 7]), ?_⟩
            refine K.DW.l 9 rfl (by kernel_rfl) rfl (K.OW.q rfl (K.QR.k (v := .bool false) (by kernel_rfl)) ?_)
            refine ⟨.inl (hS.pick [0, 1, 7]), ?_⟩
            refine K.DW.done (by kernel_rfl) ?_
            refine K.thn_normal ?_
            refine K.KW.ifF rfl ?_
            refine K.KW.skip ?_
            refine K.thn_normal ?_
            refine K.KW.seq ?_
            -- 17 :131
            refine K.KW.region ?_
            refine K.RW.q rfl rfl (K.QR.ldN [.int .i64 (numR x0 63), .int .i64 (K.ixS x1 opNm), .int .u32 (IntKind.u32.wrap (numR x2 4294967295)), .int .u32 (IntKind.u32.wrap (numR x3 4294967295)), .int .i64 (K.ixS x4 resNm), .int .u32 (IntKind.u32.wrap (numR x5 4294967295)), .int .i64 (whenR x6), .int .i64 (whenR x8), .int .i64 (whenR x7), .bool true, .bool true] rfl rfl (by kernel_rfl) (by kernel_rfl) (K.cells (K.cl ((hS.blk 7 rfl hg_171).cell rfl) (K.cl ((hS.blk 7 rfl hg_171).cell rfl) (K.cl ((hS.blk 7 rfl hg_171).cell rfl) (K.cl ((hS.blk 7 rfl hg_171).cell rfl) (K.cl ((hS.blk 7 rfl hg_171).cell rfl) (K.cl ((hS.blk 7 rfl hg_171).cell rfl) (K.cl ((hS.blk 7 rfl hg_171).cell rfl) (K.cl ((hS.blk 7 rfl hg_171).cell rfl) (K.cl ((hS.blk 7 rfl hg_171).cell rfl) (K.cl ((hS.blk 7 rfl hg_171).cell rfl) (K.cl ((hS.blk 7 rfl hg_171).cell rfl) K.cl0))))))))))))) ?_
            refine K.RW.l rfl (K.OW.gst 8 [.int .i64 (numR x0 63), .int .i64 (K.ixS x1 opNm), .int .u32 (IntKind.u32.wrap (numR x2 4294967295)), .int .u32 (IntKind.u32.wrap (numR x3 4294967295)), .int .i64 (K.ixS x4 resNm), .int .u32 (IntKind.u32.wrap (numR x5 4294967295)), .int .i64 (whenR x6), .int .i64 (whenR x8), .int .i64 (whenR x7), .bool true, .bool true] [.int .i64 (numR x0 63), .int .i64 (K.ixS x1 opNm), .int .u32 (IntKind.u32.wrap (numR x2 4294967295)), .int .u32 (IntKind.u32.wrap (numR x3 4294967295)), .int .i64 (K.ixS x4 resNm), .int .u32 (IntKind.u32.wrap (numR x5 4294967295)), .int .i64 (whenR x6), .int .i64 (whenR x8), .int .i64 (whenR x7), .bool true, .bool true] hS hg_3 ?_)
            clear hS; intro w g_176 hg_177 hS
            replace hS : K.Sat w0 [gl_125, g_5, gi_129, g_21, g_26, g_79, g_44, g_170, g_176, fr] w := hS
            refine K.RW.qs [.int .i64 0] (by kernel_rfl) ?_
            refine K.RW.nil ?_
            refine K.thn_normal ?_
            refine K.KW.ret ?_
            have hB : isR (K.spl 32 l) = b_130 := by rw [hL]; exact isR_eq hb_40 hb_55 hb_65 hb_75 hb_90 hb_100 hb_112 hb_122 hb_132
            have hE := rdW_eq (x0 := x0) (x1 := x1) (x2 := x2) (x3 := x3) (x4 := x4) (x5 := x5) (x6 := x6) (x7 := x7) (x8 := x8) (x9 := x9) (p := true) (q := true) (decide_eq_true h_141) (decide_eq_true h_167)
            refine ⟨.inr rfl, rfl, (.tuple #[.agg #[.int .i64 (numR x0 63), .int .i64 (K.ixS x1 opNm), .int .u32 (IntKind.u32.wrap (numR x2 4294967295)), .int .u32 (IntKind.u32.wrap (numR x3 4294967295)), .int .i64 (K.ixS x4 resNm), .int .u32 (IntKind.u32.wrap (numR x5 4294967295)), .int .i64 (whenR x6), .int .i64 (whenR x8), .int .i64 (whenR x7), .bool true, .bool true], .int .i64 0]), K.resAt (rs := [.cell 2 29, .tmp 3]) [.agg #[.int .i64 (numR x0 63), .int .i64 (K.ixS x1 opNm), .int .u32 (IntKind.u32.wrap (numR x2 4294967295)), .int .u32 (IntKind.u32.wrap (numR x3 4294967295)), .int .i64 (K.ixS x4 resNm), .int .u32 (IntKind.u32.wrap (numR x5 4294967295)), .int .i64 (whenR x6), .int .i64 (whenR x8), .int .i64 (whenR x7), .bool true, .bool true], .int .i64 0] rfl ⟨⟨_, rfl, K.lvN [.int .i64 (numR x0 63), .int .i64 (K.ixS x1 opNm), .int .u32 (IntKind.u32.wrap (numR x2 4294967295)), .int .u32 (IntKind.u32.wrap (numR x3 4294967295)), .int .i64 (K.ixS x4 resNm), .int .u32 (IntKind.u32.wrap (numR x5 4294967295)), .int .i64 (whenR x6), .int .i64 (whenR x8), .int .i64 (whenR x7), .bool true, .bool true] (by kernel_rfl) (by kernel_rfl) (K.cells (K.cl ((hS.blk 8 rfl hg_177).cell rfl) (K.cl ((hS.blk 8 rfl hg_177).cell rfl) (K.cl ((hS.blk 8 rfl hg_177).cell rfl) (K.cl ((hS.blk 8 rfl hg_177).cell rfl) (K.cl ((hS.blk 8 rfl hg_177).cell rfl) (K.cl ((hS.blk 8 rfl hg_177).cell rfl) (K.cl ((hS.blk 8 rfl hg_177).cell rfl) (K.cl ((hS.blk 8 rfl hg_177).cell rfl) (K.cl ((hS.blk 8 rfl hg_177).cell rfl) (K.cl ((hS.blk 8 rfl hg_177).cell rfl) (K.cl ((hS.blk 8 rfl hg_177).cell rfl) K.cl0))))))))))))⟩, rfl, trivial⟩, [], ?_, hS.pick [9]⟩
            exact ⟨rfl, .inl ⟨⟨by omega, hB.trans hb_172, by rw [hL, hE]; assumption⟩, by unfold readR; rw [hL, hE]; rfl⟩⟩
          ·  -- no
            refine K.DW.l 8 rfl (by kernel_rfl) (by kernel_rfl) (K.OW.q rfl (K.QR.sNe (xs := (endR (⟨(numR x0 63), (K.ixS x1 opNm), IntKind.u32.wrap (numR x2 4294967295), IntKind.u32.wrap (numR x3 4294967295), (K.ixS x4 resNm), IntKind.u32.wrap (numR x5 4294967295), (whenR x6), (whenR x8), (whenR x7), true, true⟩ : CallM))) (ys := [x9].getD 0 []) true rfl rfl rfl (K.ndeq_f h_175)) ?_)
            refine ⟨.inl (hS.pick [0, 1, 7]), ?_⟩
            refine K.DW.l 9 rfl (by kernel_rfl) rfl (K.OW.q rfl (K.QR.k (v := .bool true) (by kernel_rfl)) ?_)
            refine ⟨.inl (hS.pick [0, 1, 7]), ?_⟩
            refine K.DW.done (by kernel_rfl) ?_
            refine K.thn_normal ?_
            refine K.KW.ifT rfl ?_
            refine K.KW.seq ?_
            -- 16 :129
            refine K.KW.region ?_
            refine K.RW.q rfl rfl (K.QR.bd [] [.int .i64 0, .int .i64 0, .int .u32 0, .int .u32 0, .int .i64 0, .int .u32 0, .int .i64 0, .int .i64 0, .int .i64 0, .bool false, .bool false] rfl rfl (by kernel_rfl)) ?_
            refine K.RW.l rfl (K.OW.gst 8 [.int .i64 0, .int .i64 0, .int .u32 0, .int .u32 0, .int .i64 0, .int .u32 0, .int .i64 0, .int .i64 0, .int .i64 0, .bool false, .bool false] [.int .i64 0, .int .i64 0, .int .u32 0, .int .u32 0, .int .i64 0, .int .u32 0, .int .i64 0, .int .i64 0, .int .i64 0, .bool false, .bool false] hS hg_3 ?_)
            clear hS; intro w g_178 hg_179 hS
            replace hS : K.Sat w0 [gl_125, g_5, gi_129, g_21, g_26, g_79, g_44, g_170, g_178, fr] w := hS
            refine K.RW.qs [.int .i64 3] (by kernel_rfl) ?_
            refine K.RW.nil ?_
            refine K.thn_normal ?_
            refine K.KW.ret ?_
            refine K.thn_ret ?_
            have hB : isR (K.spl 32 l) = b_130 := by rw [hL]; exact isR_eq hb_40 hb_55 hb_65 hb_75 hb_90 hb_100 hb_112 hb_122 hb_132
            have hE := rdW_eq (x0 := x0) (x1 := x1) (x2 := x2) (x3 := x3) (x4 := x4) (x5 := x5) (x6 := x6) (x7 := x7) (x8 := x8) (x9 := x9) (p := true) (q := true) (decide_eq_true h_141) (decide_eq_true h_167)
            refine ⟨.inr rfl, rfl, (.tuple #[.agg #[.int .i64 0, .int .i64 0, .int .u32 0, .int .u32 0, .int .i64 0, .int .u32 0, .int .i64 0, .int .i64 0, .int .i64 0, .bool false, .bool false], .int .i64 3]), K.resAt (rs := [.cell 2 29, .tmp 3]) [.agg #[.int .i64 0, .int .i64 0, .int .u32 0, .int .u32 0, .int .i64 0, .int .u32 0, .int .i64 0, .int .i64 0, .int .i64 0, .bool false, .bool false], .int .i64 3] rfl ⟨⟨_, rfl, K.lvN [.int .i64 0, .int .i64 0, .int .u32 0, .int .u32 0, .int .i64 0, .int .u32 0, .int .i64 0, .int .i64 0, .int .i64 0, .bool false, .bool false] (by kernel_rfl) (by kernel_rfl) (K.cells (K.cl ((hS.blk 8 rfl hg_179).cell rfl) (K.cl ((hS.blk 8 rfl hg_179).cell rfl) (K.cl ((hS.blk 8 rfl hg_179).cell rfl) (K.cl ((hS.blk 8 rfl hg_179).cell rfl) (K.cl ((hS.blk 8 rfl hg_179).cell rfl) (K.cl ((hS.blk 8 rfl hg_179).cell rfl) (K.cl ((hS.blk 8 rfl hg_179).cell rfl) (K.cl ((hS.blk 8 rfl hg_179).cell rfl) (K.cl ((hS.blk 8 rfl hg_179).cell rfl) (K.cl ((hS.blk 8 rfl hg_179).cell rfl) (K.cl ((hS.blk 8 rfl hg_179).cell rfl) K.cl0))))))))))))⟩, rfl, trivial⟩, [], ?_, hS.pick [9]⟩
            exact ⟨rfl, .inr ⟨fun hh => (by have h9 := hh.2.2; rw [hL, hE] at h9; exact absurd h9 (by assumption)), rfl⟩⟩
      ·  -- no
        refine K.DW.q 7 (by kernel_rfl) rfl rfl (by kernel_rfl) rfl (fun w hS => K.QR.sEq (xs := [x9].getD 0 []) (ys := [107, 101, 112, 116]) false rfl rfl rfl (K.deq_f h_167)) (hS.pick [0, 1]) ?_
        refine K.DW.l 8 rfl (by kernel_rfl) rfl (K.OW.q rfl (K.QR.k (v := .pointer (some ⟨r_28, 9, none⟩)) (by kernel_rfl)) ?_)
        refine ⟨.inl (hS.pick [0, 1]), ?_⟩
        refine K.DW.l 9 rfl (by kernel_rfl) rfl (K.OW.gst 7 [.bool true] [.int .i64 (numR x0 63), .int .i64 (K.ixS x1 opNm), .int .u32 (IntKind.u32.wrap (numR x2 4294967295)), .int .u32 (IntKind.u32.wrap (numR x3 4294967295)), .int .i64 (K.ixS x4 resNm), .int .u32 (IntKind.u32.wrap (numR x5 4294967295)), .int .i64 (whenR x6), .int .i64 (whenR x8), .int .i64 (whenR x7), .bool true, .bool false] hS hg_138 ?_)
        clear hS; intro w g_180 hg_181 hS
        replace hS : K.Sat w0 [gl_125, g_5, gi_129, g_21, g_26, g_79, g_44, g_180, g_2, fr] w := hS
        refine ⟨.inl (hS.pick [0, 1]), ?_⟩
        refine K.DW.l 10 rfl (by kernel_rfl) rfl (K.OW.q rfl (K.QR.k (v := .pointer (some ⟨r_28, 10, none⟩)) (by kernel_rfl)) ?_)
        refine ⟨.inl (hS.pick [0, 1]), ?_⟩
        refine K.DW.l 11 rfl (by kernel_rfl) rfl (K.OW.gst 7 [.bool false] [.int .i64 (numR x0 63), .int .i64 (K.ixS x1 opNm), .int .u32 (IntKind.u32.wrap (numR x2 4294967295)), .int .u32 (IntKind.u32.wrap (numR x3 4294967295)), .int .i64 (K.ixS x4 resNm), .int .u32 (IntKind.u32.wrap (numR x5 4294967295)), .int .i64 (whenR x6), .int .i64 (whenR x8), .int .i64 (whenR x7), .bool true, .bool false] hS hg_181 ?_)
        clear hS; intro w g_182 hg_183 hS
        replace hS : K.Sat w0 [gl_125, g_5, gi_129, g_21, g_26, g_79, g_44, g_182, g_2, fr] w := hS
        refine ⟨.inr (by kernel_rfl), ?_⟩
        refine K.DW.done (by kernel_rfl) ?_
        refine K.thn_normal ?_
        refine K.KW.seq ?_
        refine K.KW.seq ?_
        -- 15 :128
        refine K.KW.gdrawn [0, 1, 7] hS (by kernel_rfl) ?_
        clear hS; intro w hS
        refine K.DW.l 0 rfl (by kernel_rfl) rfl (K.OW.q rfl (K.QR.ld1 (v := .bool b_130) rfl rfl (by kernel_rfl) ((hS.blk 2 rfl hi_131).cell rfl)) ?_)
        refine ⟨.inl (hS.pick [0, 1, 7]), ?_⟩
        cases hb_184 : b_130
        ·
          refine K.DW.l 1 rfl (by kernel_rfl) rfl (K.OW.q rfl (K.QR.k (v := .bool true) (by kernel_rfl)) ?_)
          refine ⟨.inl (hS.pick [0, 1, 7]), ?_⟩
          refine K.DW.l 2 rfl (by kernel_rfl) rfl (K.OW.q rfl (K.QR.k (v := .bool true) (by kernel_rfl)) ?_)
          refine ⟨.inl (hS.pick [0, 1, 7]), ?_⟩
          refine K.DW.skip 3 (by kernel_rfl) rfl rfl (by kernel_rfl) (by kernel_rfl) (hS.pick [0, 1, 7]) ?_
          refine K.DW.skip 4 (by kernel_rfl) rfl rfl (by kernel_rfl) (by kernel_rfl) (hS.pick [0, 1, 7]) ?_
          refine K.DW.skip 5 (by kernel_rfl) rfl rfl (by kernel_rfl) (by kernel_rfl) (hS.pick [0, 1, 7]) ?_
          refine K.DW.skip 6 (by kernel_rfl) rfl rfl (by kernel_rfl) (by kernel_rfl) (hS.pick [0, 1, 7]) ?_
          refine K.DW.skip 7 (by kernel_rfl) rfl rfl (by kernel_rfl) (by kernel_rfl) (hS.pick [0, 1, 7]) ?_
          refine K.DW.skip 8 (by kernel_rfl) rfl rfl (by kernel_rfl) (by kernel_rfl) (hS.pick [0, 1, 7]) ?_
          refine K.DW.l 9 rfl (by kernel_rfl) rfl (K.OW.q rfl (K.QR.k (v := .bool true) (by kernel_rfl)) ?_)
          refine ⟨.inl (hS.pick [0, 1, 7]), ?_⟩
          refine K.DW.done (by kernel_rfl) ?_
          refine K.thn_normal ?_
          refine K.KW.ifT rfl ?_
          refine K.KW.seq ?_
          -- 16 :129
          refine K.KW.region ?_
          refine K.RW.q rfl rfl (K.QR.bd [] [.int .i64 0, .int .i64 0, .int .u32 0, .int .u32 0, .int .i64 0, .int .u32 0, .int .i64 0, .int .i64 0, .int .i64 0, .bool false, .bool false] rfl rfl (by kernel_rfl)) ?_
          refine K.RW.l rfl (K.OW.gst 8 [.int .i64 0, .int .i64 0, .int .u32 0, .int .u32 0, .int .i64 0, .int .u32 0, .int .i64 0, .int .i64 0, .int .i64 0, .bool false, .bool false] [.int .i64 0, .int .i64 0, .int .u32 0, .int .u32 0, .int .i64 0, .int .u32 0, .int .i64 0, .int .i64 0, .int .i64 0, .bool false, .bool false] hS hg_3 ?_)
          clear hS; intro w g_185 hg_186 hS
          replace hS : K.Sat w0 [gl_125, g_5, gi_129, g_21, g_26, g_79, g_44, g_182, g_185, fr] w := hS
          refine K.RW.qs [.int .i64 3] (by kernel_rfl) ?_
          refine K.RW.nil ?_
          refine K.thn_normal ?_
          refine K.KW.ret ?_
          refine K.thn_ret ?_
          have hB : isR (K.spl 32 l) = b_130 := by rw [hL]; exact isR_eq hb_40 hb_55 hb_65 hb_75 hb_90 hb_100 hb_112 hb_122 hb_132
          have hE := rdW_eq (x0 := x0) (x1 := x1) (x2 := x2) (x3 := x3) (x4 := x4) (x5 := x5) (x6 := x6) (x7 := x7) (x8 := x8) (x9 := x9) (p := true) (q := false) (decide_eq_true h_141) (decide_eq_false h_167)
          refine ⟨.inr rfl, rfl, (.tuple #[.agg #[.int .i64 0, .int .i64 0, .int .u32 0, .int .u32 0, .int .i64 0, .int .u32 0, .int .i64 0, .int .i64 0, .int .i64 0, .bool false, .bool false], .int .i64 3]), K.resAt (rs := [.cell 2 29, .tmp 3]) [.agg #[.int .i64 0, .int .i64 0, .int .u32 0, .int .u32 0, .int .i64 0, .int .u32 0, .int .i64 0, .int .i64 0, .int .i64 0, .bool false, .bool false], .int .i64 3] rfl ⟨⟨_, rfl, K.lvN [.int .i64 0, .int .i64 0, .int .u32 0, .int .u32 0, .int .i64 0, .int .u32 0, .int .i64 0, .int .i64 0, .int .i64 0, .bool false, .bool false] (by kernel_rfl) (by kernel_rfl) (K.cells (K.cl ((hS.blk 8 rfl hg_186).cell rfl) (K.cl ((hS.blk 8 rfl hg_186).cell rfl) (K.cl ((hS.blk 8 rfl hg_186).cell rfl) (K.cl ((hS.blk 8 rfl hg_186).cell rfl) (K.cl ((hS.blk 8 rfl hg_186).cell rfl) (K.cl ((hS.blk 8 rfl hg_186).cell rfl) (K.cl ((hS.blk 8 rfl hg_186).cell rfl) (K.cl ((hS.blk 8 rfl hg_186).cell rfl) (K.cl ((hS.blk 8 rfl hg_186).cell rfl) (K.cl ((hS.blk 8 rfl hg_186).cell rfl) (K.cl ((hS.blk 8 rfl hg_186).cell rfl) K.cl0))))))))))))⟩, rfl, trivial⟩, [], ?_, hS.pick [9]⟩
          exact ⟨rfl, .inr ⟨fun hh => (by cases (hB.trans hb_184).symm.trans hh.2.1), rfl⟩⟩
        ·
          refine K.DW.l 1 rfl (by kernel_rfl) rfl (K.OW.q rfl (K.QR.k (v := .bool false) (by kernel_rfl)) ?_)
          refine ⟨.inl (hS.pick [0, 1, 7]), ?_⟩
          refine K.DW.l 2 rfl (by kernel_rfl) rfl (K.OW.q rfl (K.QR.k (v := .bool false) (by kernel_rfl)) ?_)
          refine ⟨.inl (hS.pick [0, 1, 7]), ?_⟩
          refine K.DW.q 3 (by kernel_rfl) rfl rfl (by kernel_rfl) (by kernel_rfl) (fun w hS => K.QR.ldN [.int .i64 (numR x0 63), .int .i64 (K.ixS x1 opNm), .int .u32 (IntKind.u32.wrap (numR x2 4294967295)), .int .u32 (IntKind.u32.wrap (numR x3 4294967295)), .int .i64 (K.ixS x4 resNm), .int .u32 (IntKind.u32.wrap (numR x5 4294967295)), .int .i64 (whenR x6), .int .i64 (whenR x8), .int .i64 (whenR x7), .bool true, .bool false] rfl rfl (by kernel_rfl) (by kernel_rfl) (K.cells (K.cl ((hS.blk 2 rfl hg_183).cell rfl) (K.cl ((hS.blk 2 rfl hg_183).cell rfl) (K.cl ((hS.blk 2 rfl hg_183).cell rfl) (K.cl ((hS.blk 2 rfl hg_183).cell rfl) (K.cl ((hS.blk 2 rfl hg_183).cell rfl) (K.cl ((hS.blk 2 rfl hg_183).cell rfl) (K.cl ((hS.blk 2 rfl hg_183).cell rfl) (K.cl ((hS.blk 2 rfl hg_183).cell rfl) (K.cl ((hS.blk 2 rfl hg_183).cell rfl) (K.cl ((hS.blk 2 rfl hg_183).cell rfl) (K.cl ((hS.blk 2 rfl hg_183).cell rfl) K.cl0))))))))))))) (hS.pick [0, 1, 7]) ?_
          refine K.DW.q 5 (by kernel_rfl) rfl rfl (by kernel_rfl) (by kernel_rfl) (fun w hS => K.QR.ld1 (v := .slice (some ⟨b_139, of_140, none⟩) ([x9].length) cap_124) rfl rfl (by kernel_rfl) ((hS.blk 0 rfl hl_126).cell rfl)) (hS.pick [0, 1, 7]) ?_
          refine K.DW.q 6 (by kernel_rfl) rfl rfl (by kernel_rfl) (by kernel_rfl) (fun w hS => K.QR.ix (of_140 + 0 * 1) 1 rfl rfl rfl Tryd.underlying68 (by kernel_rfl) (by omega) (by first | (simp; done) | omega | (simp; omega))) (hS.pick [0, 1, 7]) ?_
          refine K.DW.q 7 (by kernel_rfl) rfl rfl (by kernel_rfl) (by kernel_rfl) (fun w hS => K.QR.ld1 (v := .string (K.sb ([x9].getD 0 []))) rfl rfl (by kernel_rfl) ((hx_128 _ (hS.pick [1])).ld 0 (by omega) 0 _ rfl)) (hS.pick [0, 1, 7]) ?_
          refine K.DW.l 4 rfl (by kernel_rfl) (by kernel_rfl) (K.OW.gcall hS [] [0, 1, 2, 3, 4, 5, 6, 7, 8, 9] [.agg #[.int .i64 (numR x0 63), .int .i64 (K.ixS x1 opNm), .int .u32 (IntKind.u32.wrap (numR x2 4294967295)), .int .u32 (IntKind.u32.wrap (numR x3 4294967295)), .int .i64 (K.ixS x4 resNm), .int .u32 (IntKind.u32.wrap (numR x5 4294967295)), .int .i64 (whenR x6), .int .i64 (whenR x8), .int .i64 (whenR x7), .bool true, .bool false]] (ending_ok _ (⟨(numR x0 63), (K.ixS x1 opNm), IntKind.u32.wrap (numR x2 4294967295), IntKind.u32.wrap (numR x3 4294967295), (K.ixS x4 resNm), IntKind.u32.wrap (numR x5 4294967295), (whenR x6), (whenR x8), (whenR x7), true, false⟩ : CallM)) ?_)
          clear hS; rintro _ _ w ⟨rfl, rfl⟩ hS
          replace hS : K.Sat w0 [gl_125, g_5, gi_129, g_21, g_26, g_79, g_44, g_182, g_2, fr] w := hS
          refine ⟨.inl (hS.pick [0, 1, 7]), ?_⟩
          by_cases h_187 : (endR (⟨(numR x0 63), (K.ixS x1 opNm), IntKind.u32.wrap (numR x2 4294967295), IntKind.u32.wrap (numR x3 4294967295), (K.ixS x4 resNm), IntKind.u32.wrap (numR x5 4294967295), (whenR x6), (whenR x8), (whenR x7), true, false⟩ : CallM)) = ([x9].getD 0 [])
          ·  -- yes
            refine K.DW.l 8 rfl (by kernel_rfl) (by kernel_rfl) (K.OW.q rfl (K.QR.sNe (xs := (endR (⟨(numR x0 63), (K.ixS x1 opNm), IntKind.u32.wrap (numR x2 4294967295), IntKind.u32.wrap (numR x3 4294967295), (K.ixS x4 resNm), IntKind.u32.wrap (numR x5 4294967295), (whenR x6), (whenR x8), (whenR x7), true, false⟩ : CallM))) (ys := [x9].getD 0 []) false rfl rfl rfl (K.ndeq_t h_187)) ?_)
            refine ⟨.inl (hS.pick [0, 1, 7]), ?_⟩
            refine K.DW.l 9 rfl (by kernel_rfl) rfl (K.OW.q rfl (K.QR.k (v := .bool false) (by kernel_rfl)) ?_)
            refine ⟨.inl (hS.pick [0, 1, 7]), ?_⟩
            refine K.DW.done (by kernel_rfl) ?_
            refine K.thn_normal ?_
            refine K.KW.ifF rfl ?_
            refine K.KW.skip ?_
            refine K.thn_normal ?_
            refine K.KW.seq ?_
            -- 17 :131
            refine K.KW.region ?_
            refine K.RW.q rfl rfl (K.QR.ldN [.int .i64 (numR x0 63), .int .i64 (K.ixS x1 opNm), .int .u32 (IntKind.u32.wrap (numR x2 4294967295)), .int .u32 (IntKind.u32.wrap (numR x3 4294967295)), .int .i64 (K.ixS x4 resNm), .int .u32 (IntKind.u32.wrap (numR x5 4294967295)), .int .i64 (whenR x6), .int .i64 (whenR x8), .int .i64 (whenR x7), .bool true, .bool false] rfl rfl (by kernel_rfl) (by kernel_rfl) (K.cells (K.cl ((hS.blk 7 rfl hg_183).cell rfl) (K.cl ((hS.blk 7 rfl hg_183).cell rfl) (K.cl ((hS.blk 7 rfl hg_183).cell rfl) (K.cl ((hS.blk 7 rfl hg_183).cell rfl) (K.cl ((hS.blk 7 rfl hg_183).cell rfl) (K.cl ((hS.blk 7 rfl hg_183).cell rfl) (K.cl ((hS.blk 7 rfl hg_183).cell rfl) (K.cl ((hS.blk 7 rfl hg_183).cell rfl) (K.cl ((hS.blk 7 rfl hg_183).cell rfl) (K.cl ((hS.blk 7 rfl hg_183).cell rfl) (K.cl ((hS.blk 7 rfl hg_183).cell rfl) K.cl0))))))))))))) ?_
            refine K.RW.l rfl (K.OW.gst 8 [.int .i64 (numR x0 63), .int .i64 (K.ixS x1 opNm), .int .u32 (IntKind.u32.wrap (numR x2 4294967295)), .int .u32 (IntKind.u32.wrap (numR x3 4294967295)), .int .i64 (K.ixS x4 resNm), .int .u32 (IntKind.u32.wrap (numR x5 4294967295)), .int .i64 (whenR x6), .int .i64 (whenR x8), .int .i64 (whenR x7), .bool true, .bool false] [.int .i64 (numR x0 63), .int .i64 (K.ixS x1 opNm), .int .u32 (IntKind.u32.wrap (numR x2 4294967295)), .int .u32 (IntKind.u32.wrap (numR x3 4294967295)), .int .i64 (K.ixS x4 resNm), .int .u32 (IntKind.u32.wrap (numR x5 4294967295)), .int .i64 (whenR x6), .int .i64 (whenR x8), .int .i64 (whenR x7), .bool true, .bool false] hS hg_3 ?_)
            clear hS; intro w g_188 hg_189 hS
            replace hS : K.Sat w0 [gl_125, g_5, gi_129, g_21, g_26, g_79, g_44, g_182, g_188, fr] w := hS
            refine K.RW.qs [.int .i64 0] (by kernel_rfl) ?_
            refine K.RW.nil ?_
            refine K.thn_normal ?_
            refine K.KW.ret ?_
            have hB : isR (K.spl 32 l) = b_130 := by rw [hL]; exact isR_eq hb_40 hb_55 hb_65 hb_75 hb_90 hb_100 hb_112 hb_122 hb_132
            have hE := rdW_eq (x0 := x0) (x1 := x1) (x2 := x2) (x3 := x3) (x4 := x4) (x5 := x5) (x6 := x6) (x7 := x7) (x8 := x8) (x9 := x9) (p := true) (q := false) (decide_eq_true h_141) (decide_eq_false h_167)
            refine ⟨.inr rfl, rfl, (.tuple #[.agg #[.int .i64 (numR x0 63), .int .i64 (K.ixS x1 opNm), .int .u32 (IntKind.u32.wrap (numR x2 4294967295)), .int .u32 (IntKind.u32.wrap (numR x3 4294967295)), .int .i64 (K.ixS x4 resNm), .int .u32 (IntKind.u32.wrap (numR x5 4294967295)), .int .i64 (whenR x6), .int .i64 (whenR x8), .int .i64 (whenR x7), .bool true, .bool false], .int .i64 0]), K.resAt (rs := [.cell 2 29, .tmp 3]) [.agg #[.int .i64 (numR x0 63), .int .i64 (K.ixS x1 opNm), .int .u32 (IntKind.u32.wrap (numR x2 4294967295)), .int .u32 (IntKind.u32.wrap (numR x3 4294967295)), .int .i64 (K.ixS x4 resNm), .int .u32 (IntKind.u32.wrap (numR x5 4294967295)), .int .i64 (whenR x6), .int .i64 (whenR x8), .int .i64 (whenR x7), .bool true, .bool false], .int .i64 0] rfl ⟨⟨_, rfl, K.lvN [.int .i64 (numR x0 63), .int .i64 (K.ixS x1 opNm), .int .u32 (IntKind.u32.wrap (numR x2 4294967295)), .int .u32 (IntKind.u32.wrap (numR x3 4294967295)), .int .i64 (K.ixS x4 resNm), .int .u32 (IntKind.u32.wrap (numR x5 4294967295)), .int .i64 (whenR x6), .int .i64 (whenR x8), .int .i64 (whenR x7), .bool true, .bool false] (by kernel_rfl) (by kernel_rfl) (K.cells (K.cl ((hS.blk 8 rfl hg_189).cell rfl) (K.cl ((hS.blk 8 rfl hg_189).cell rfl) (K.cl ((hS.blk 8 rfl hg_189).cell rfl) (K.cl ((hS.blk 8 rfl hg_189).cell rfl) (K.cl ((hS.blk 8 rfl hg_189).cell rfl) (K.cl ((hS.blk 8 rfl hg_189).cell rfl) (K.cl ((hS.blk 8 rfl hg_189).cell rfl) (K.cl ((hS.blk 8 rfl hg_189).cell rfl) (K.cl ((hS.blk 8 rfl hg_189).cell rfl) (K.cl ((hS.blk 8 rfl hg_189).cell rfl) (K.cl ((hS.blk 8 rfl hg_189).cell rfl) K.cl0))))))))))))⟩, rfl, trivial⟩, [], ?_, hS.pick [9]⟩
            exact ⟨rfl, .inl ⟨⟨by omega, hB.trans hb_184, by rw [hL, hE]; assumption⟩, by unfold readR; rw [hL, hE]; rfl⟩⟩
          ·  -- no
            refine K.DW.l 8 rfl (by kernel_rfl) (by kernel_rfl) (K.OW.q rfl (K.QR.sNe (xs := (endR (⟨(numR x0 63), (K.ixS x1 opNm), IntKind.u32.wrap (numR x2 4294967295), IntKind.u32.wrap (numR x3 4294967295), (K.ixS x4 resNm), IntKind.u32.wrap (numR x5 4294967295), (whenR x6), (whenR x8), (whenR x7), true, false⟩ : CallM))) (ys := [x9].getD 0 []) true rfl rfl rfl (K.ndeq_f h_187)) ?_)
            refine ⟨.inl (hS.pick [0, 1, 7]), ?_⟩
            refine K.DW.l 9 rfl (by kernel_rfl) rfl (K.OW.q rfl (K.QR.k (v := .bool true) (by kernel_rfl)) ?_)
            refine ⟨.inl (hS.pick [0, 1, 7]), ?_⟩
            refine K.DW.done (by kernel_rfl) ?_
            refine K.thn_normal ?_
            refine K.KW.ifT rfl ?_
            refine K.KW.seq ?_
            -- 16 :129
            refine K.KW.region ?_
            refine K.RW.q rfl rfl (K.QR.bd [] [.int .i64 0, .int .i64 0, .int .u32 0, .int .u32 0, .int .i64 0, .int .u32 0, .int .i64 0, .int .i64 0, .int .i64 0, .bool false, .bool false] rfl rfl (by kernel_rfl)) ?_
            refine K.RW.l rfl (K.OW.gst 8 [.int .i64 0, .int .i64 0, .int .u32 0, .int .u32 0, .int .i64 0, .int .u32 0, .int .i64 0, .int .i64 0, .int .i64 0, .bool false, .bool false] [.int .i64 0, .int .i64 0, .int .u32 0, .int .u32 0, .int .i64 0, .int .u32 0, .int .i64 0, .int .i64 0, .int .i64 0, .bool false, .bool false] hS hg_3 ?_)
            clear hS; intro w g_190 hg_191 hS
            replace hS : K.Sat w0 [gl_125, g_5, gi_129, g_21, g_26, g_79, g_44, g_182, g_190, fr] w := hS
            refine K.RW.qs [.int .i64 3] (by kernel_rfl) ?_
            refine K.RW.nil ?_
            refine K.thn_normal ?_
            refine K.KW.ret ?_
            refine K.thn_ret ?_
            have hB : isR (K.spl 32 l) = b_130 := by rw [hL]; exact isR_eq hb_40 hb_55 hb_65 hb_75 hb_90 hb_100 hb_112 hb_122 hb_132
            have hE := rdW_eq (x0 := x0) (x1 := x1) (x2 := x2) (x3 := x3) (x4 := x4) (x5 := x5) (x6 := x6) (x7 := x7) (x8 := x8) (x9 := x9) (p := true) (q := false) (decide_eq_true h_141) (decide_eq_false h_167)
            refine ⟨.inr rfl, rfl, (.tuple #[.agg #[.int .i64 0, .int .i64 0, .int .u32 0, .int .u32 0, .int .i64 0, .int .u32 0, .int .i64 0, .int .i64 0, .int .i64 0, .bool false, .bool false], .int .i64 3]), K.resAt (rs := [.cell 2 29, .tmp 3]) [.agg #[.int .i64 0, .int .i64 0, .int .u32 0, .int .u32 0, .int .i64 0, .int .u32 0, .int .i64 0, .int .i64 0, .int .i64 0, .bool false, .bool false], .int .i64 3] rfl ⟨⟨_, rfl, K.lvN [.int .i64 0, .int .i64 0, .int .u32 0, .int .u32 0, .int .i64 0, .int .u32 0, .int .i64 0, .int .i64 0, .int .i64 0, .bool false, .bool false] (by kernel_rfl) (by kernel_rfl) (K.cells (K.cl ((hS.blk 8 rfl hg_191).cell rfl) (K.cl ((hS.blk 8 rfl hg_191).cell rfl) (K.cl ((hS.blk 8 rfl hg_191).cell rfl) (K.cl ((hS.blk 8 rfl hg_191).cell rfl) (K.cl ((hS.blk 8 rfl hg_191).cell rfl) (K.cl ((hS.blk 8 rfl hg_191).cell rfl) (K.cl ((hS.blk 8 rfl hg_191).cell rfl) (K.cl ((hS.blk 8 rfl hg_191).cell rfl) (K.cl ((hS.blk 8 rfl hg_191).cell rfl) (K.cl ((hS.blk 8 rfl hg_191).cell rfl) (K.cl ((hS.blk 8 rfl hg_191).cell rfl) K.cl0))))))))))))⟩, rfl, trivial⟩, [], ?_, hS.pick [9]⟩
            exact ⟨rfl, .inr ⟨fun hh => (by have h9 := hh.2.2; rw [hL, hE] at h9; exact absurd h9 (by assumption)), rfl⟩⟩
  ·  -- no
    refine K.RW.q rfl rfl (K.QR.nice (v := .bool (((((K.spl 32 l).length : Nat) : Int) : Int) != (10 : Int))) (by kernel_rfl) (congrArg Value.bool (bne_iff_ne.2 h_12))) ?_
    refine K.RW.nil ?_
    refine K.thn_normal ?_
    refine K.KW.ifT rfl ?_
    refine K.KW.seq ?_
    -- 3 :96
    refine K.KW.region ?_
    refine K.RW.q rfl rfl (K.QR.bd [] [.int .i64 0, .int .i64 0, .int .u32 0, .int .u32 0, .int .i64 0, .int .u32 0, .int .i64 0, .int .i64 0, .int .i64 0, .bool false, .bool false] rfl rfl (by kernel_rfl)) ?_
    refine K.RW.l rfl (K.OW.gst 2 [.int .i64 0, .int .i64 0, .int .u32 0, .int .u32 0, .int .i64 0, .int .u32 0, .int .i64 0, .int .i64 0, .int .i64 0, .bool false, .bool false] [.int .i64 0, .int .i64 0, .int .u32 0, .int .u32 0, .int .i64 0, .int .u32 0, .int .i64 0, .int .i64 0, .int .i64 0, .bool false, .bool false] hS hg_3 ?_)
    clear hS; intro w g_192 hg_193 hS
    replace hS : K.Sat w0 [g_10, g_5, g_192, fr] w := hS
    refine K.RW.qs [.int .i64 3] (by kernel_rfl) ?_
    refine K.RW.nil ?_
    refine K.thn_normal ?_
    refine K.KW.ret ?_
    refine K.thn_ret ?_
    refine ⟨.inr rfl, rfl, (.tuple #[.agg #[.int .i64 0, .int .i64 0, .int .u32 0, .int .u32 0, .int .i64 0, .int .u32 0, .int .i64 0, .int .i64 0, .int .i64 0, .bool false, .bool false], .int .i64 3]), K.resAt (rs := [.cell 2 29, .tmp 3]) [.agg #[.int .i64 0, .int .i64 0, .int .u32 0, .int .u32 0, .int .i64 0, .int .u32 0, .int .i64 0, .int .i64 0, .int .i64 0, .bool false, .bool false], .int .i64 3] rfl ⟨⟨_, rfl, K.lvN [.int .i64 0, .int .i64 0, .int .u32 0, .int .u32 0, .int .i64 0, .int .u32 0, .int .i64 0, .int .i64 0, .int .i64 0, .bool false, .bool false] (by kernel_rfl) (by kernel_rfl) (K.cells (K.cl ((hS.blk 2 rfl hg_193).cell rfl) (K.cl ((hS.blk 2 rfl hg_193).cell rfl) (K.cl ((hS.blk 2 rfl hg_193).cell rfl) (K.cl ((hS.blk 2 rfl hg_193).cell rfl) (K.cl ((hS.blk 2 rfl hg_193).cell rfl) (K.cl ((hS.blk 2 rfl hg_193).cell rfl) (K.cl ((hS.blk 2 rfl hg_193).cell rfl) (K.cl ((hS.blk 2 rfl hg_193).cell rfl) (K.cl ((hS.blk 2 rfl hg_193).cell rfl) (K.cl ((hS.blk 2 rfl hg_193).cell rfl) (K.cl ((hS.blk 2 rfl hg_193).cell rfl) K.cl0))))))))))))⟩, rfl, trivial⟩, [], ?_, hS.pick [3]⟩
    exact ⟨rfl, .inr ⟨okR_len (b := true) (by omega), rfl⟩⟩
end Go.Proofs.YtnehocjmgnhhhaaDoor
